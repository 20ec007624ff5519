import PyProof.Rows.All
import Wide.All
import OpenK.AllK
import Wide.FinOn
import PySem.Challenge.RW_loopgauge_k01_what_is_no_loop
import PyProof.P3Statements
import HandS.ForMost
import HandS.ForExc
import HandS.Wide
import HandS.Conv
import HandS.Style
import HandS.IsInst
import HandS.ExcIs
import HandS.HotCalls
import HandS.TupAny
import HandS.ListEq
import HandS.DictEq
import HandS.DeepEq
import HandS.Text
import HandS.EndBits
set_option Elab.async false
set_option linter.all false
set_option maxRecDepth 100000
/-! What the program's defs compute, told over plain data: no machine in sight. -/
namespace PL
open PySem

abbrev D := PyData
/-- how a reckoning ends: a datum, a refusal by its class's name, or nothing that is told here -/
inductive R (A : Type) where
  | ok (a : A) | err (c : Str) | stk
namespace R
def bind {A B : Type} (r : R A) (f : A → R B) : R B := match r with | .ok a => f a | .err c => .err c | .stk => .stk
@[simp] theorem bind_ok {A B : Type} (a : A) (f : A → R B) : (R.ok a).bind f = f a := rfl
@[simp] theorem bind_err {A B : Type} (c : Str) (f : A → R B) : (R.err c : R A).bind f = .err c := rfl
@[simp] theorem bind_stk {A B : Type} (f : A → R B) : (R.stk : R A).bind f = .stk := rfl
/-- no refusal may come here -/
def calm {A : Type} : R A → R A | .err _ => .stk | r => r
@[simp] theorem calm_ok {A : Type} (a : A) : (R.ok a).calm = .ok a := rfl
@[simp] theorem calm_err {A : Type} (c : Str) : (R.err c : R A).calm = .stk := rfl
@[simp] theorem calm_stk {A : Type} : (R.stk : R A).calm = .stk := rfl
theorem calm_noerr {A : Type} {r : R A} {c : Str} : r.calm ≠ .err c := by cases r <;> simp
end R

/-- what a slot holds: nothing known, a datum, a list of this def's own -/
inductive SV where
  | no | sh (d : D) | ow (xs : List D)
abbrev Env := List SV
abbrev EF := Env → R D
abbrev LF := Env → R (List D)
abbrev TF := Env → R Bool
abbrev GF := D → Env → R Env
/-- a statement's end -/
inductive Out where
  | next (e : Env) | ret (d : D) | brk (e : Env) | cont (e : Env) | err (c : Str) | stk
abbrev SF := Env → Out
def R.out {A : Type} (r : R A) (f : A → Out) : Out := match r with | .ok a => f a | .err c => .err c | .stk => .stk
@[simp] theorem out_ok {A : Type} (a : A) (f : A → Out) : (R.ok a).out f = f a := rfl
@[simp] theorem out_err {A : Type} (c : Str) (f : A → Out) : (R.err c : R A).out f = .err c := rfl
@[simp] theorem out_stk {A : Type} (f : A → Out) : (R.stk : R A).out f = .stk := rfl

abbrev szL : Nat := 16777216
/-- the script that the law is handed: it is looked at alone -/
def scr (xs : List D) : D := .dict [(.none, .list xs)]
/-- an exception that an except suite holds, by its address -/
def adr (a : Nat) : D := .dict [(.bool true, .int (Int.ofNat a))]

/-! ### values -/
def asB : D → R Bool | .bool b => .ok b | _ => .stk
def asL : D → R (List D) | .list xs => .ok xs | _ => .stk
def asI : D → R Int | .int i => .ok i | _ => .stk
def asIs : List D → R (List Int)
  | [] => .ok []
  | .int i :: r => (asIs r).bind fun is => .ok (i :: is)
  | _ :: _ => .stk
def asBs : List D → R (List Bool)
  | [] => .ok []
  | .bool b :: r => (asBs r).bind fun bs => .ok (b :: bs)
  | _ :: _ => .stk
def asSs : List D → R (List Str)
  | [] => .ok []
  | .str b :: r => (asSs r).bind fun bs => .ok (b :: bs)
  | _ :: _ => .stk

mutual
/-- the same datum -/
def same : D → D → Bool
  | .none, .none => true
  | .bool a, .bool b => a == b
  | .int a, .int b => a == b
  | .str a, .str b => decide (a = b)
  | .list a, .list b => sameAll a b
  | .tuple a, .tuple b => sameAll a b
  | .dict [], .dict [] => true
  | _, _ => false
def sameAll : List D → List D → Bool
  | [], [] => true
  | a :: r, b :: q => same a b && sameAll r q
  | _, _ => false
end
mutual
/-- no dict within, no depth without end: == is told for it -/
def flatD : Nat → D → Bool
  | _, .none => true
  | _, .bool _ => true
  | _, .int _ => true
  | _, .str x => x.cps.all (· < 0x110000)
  | n, .list xs => match n with | 0 => false | k + 1 => flatAll k xs
  | n, .tuple xs => match n with | 0 => false | k + 1 => flatAll k xs
  | _, .dict _ => false
def flatAll : Nat → List D → Bool
  | _, [] => true
  | n, x :: r => flatD n x && flatAll n r
end
mutual
/-- of a depth of at most n, dicts empty -/
def lowD : Nat → D → Bool
  | _, .none => true
  | _, .bool _ => true
  | _, .int _ => true
  | _, .str _ => true
  | n, .list xs => match n with | 0 => false | k + 1 => lowAll k xs
  | n, .tuple xs => match n with | 0 => false | k + 1 => lowAll k xs
  | n, .dict kvs => match n with | 0 => false | _ + 1 => kvs.isEmpty
def lowAll : Nat → List D → Bool
  | _, [] => true
  | n, x :: r => lowD n x && lowAll n r
end
def isDic : D → Bool | .dict _ => true | _ => false
/-- a == b -/
def eqD (a b : D) : R Bool :=
  if same a b && lowD 20 a && !isDic a then .ok true else if flatD 20 a && flatD 20 b then .ok (PyData.eqv a b) else .stk

def mulB (a b : Int) : Bool := decide (-(2 ^ 64) < a ∧ a < 2 ^ 64) || decide (-(2 ^ 64) < b ∧ b < 2 ^ 64) || decide (a.natAbs.log2 + b.natAbs.log2 < 1000000)
def reps (xs : List D) (k : Int) : List D := (List.replicate k.toNat xs).flatten

def opAdd : D → D → R D
  | .int a, .int b => .ok (.int (a + b))
  | .list xs, .list ys => if xs.length + ys.length ≤ szL then .ok (.list (xs ++ ys)) else .stk
  | .tuple xs, .tuple ys => if xs.length + ys.length ≤ szL then .ok (.tuple (xs ++ ys)) else .stk
  | .str a, .str b => if a.length + b.length ≤ szL then .ok (.str (a ++ b)) else .stk
  | _, _ => .stk
def opSub : D → D → R D
  | .int a, .int b => .ok (.int (a - b))
  | _, _ => .stk
def opMul : D → D → R D
  | .int a, .int b => if mulB a b then .ok (.int (a * b)) else .stk
  | .list xs, .int k => if -(2 ^ 62) ≤ k ∧ k < 2 ^ 62 ∧ xs.length * k.toNat ≤ szL then .ok (.list (reps xs k)) else .stk
  | .str x, .int k => if k = 0 then .ok (.str Str.empty) else if k = 1 then .ok (.str x) else .stk
  | _, _ => .stk
def opDiv : D → D → R D
  | .int a, .int b => if 0 < b ∧ b.natAbs.log2 < 9000 then .ok (.int (a / b)) else .stk
  | _, _ => .stk
def opMod : D → D → R D
  | .int a, .int b => if 0 < b then .ok (.int (a % b)) else .stk
  | _, _ => .stk
def opPow : D → D → R D
  | .int a, .int b => if 0 ≤ b ∧ b ≤ 1000 ∧ a.natAbs < 2 ^ 64 then .ok (.int (a ^ b.toNat)) else .stk
  | _, _ => .stk
def opNeg : D → R D
  | .int a => .ok (.int (-a))
  | _ => .stk
def opLt : D → D → R D
  | .int a, .int b => .ok (.bool (decide (a < b)))
  | _, _ => .stk
def opLe : D → D → R D
  | .int a, .int b => .ok (.bool (decide (a ≤ b)))
  | _, _ => .stk
def opGt : D → D → R D
  | .int a, .int b => .ok (.bool (decide (b < a)))
  | _, _ => .stk
def opGe : D → D → R D
  | .int a, .int b => .ok (.bool (decide (b ≤ a)))
  | _, _ => .stk
def opEq (a b : D) : R D := (eqD a b).bind fun r => .ok (.bool r)
def opNe (a b : D) : R D := (eqD a b).bind fun r => .ok (.bool (!r))
def isNone : D → Bool | .none => true | _ => false
/-- a is None -/
def opIsN : D → R D := fun a => .ok (.bool (isNone a))
def opNotN : D → R D := fun a => .ok (.bool (!isNone a))
/-- a is b, of truths -/
def opIsB : D → D → R D
  | .bool a, .bool b => .ok (.bool (decide (a = b)))
  | _, _ => .stk
def opNotB : D → D → R D
  | .bool a, .bool b => .ok (.bool (!decide (a = b)))
  | _, _ => .stk

/-- a is None, a is b of truths -/
def opIs : D → D → R D := fun a b => match b with
  | .none => opIsN a
  | .bool k => (match a with | .bool j => .ok (.bool (decide (j = k))) | _ => .stk)
  | _ => .stk
def opIsNot : D → D → R D := fun a b => match b with
  | .none => opNotN a
  | .bool k => (match a with | .bool j => .ok (.bool (!decide (j = k))) | _ => .stk)
  | _ => .stk
/-- xs[i] -/
def ixN (n : Nat) (i : Int) : Option Nat := if 0 ≤ i then (if i < n then some i.toNat else none) else if -(n : Int) ≤ i then some (i + n).toNat else none
def atI {A : Type} (xs : List A) (i : Int) : Option A := (ixN xs.length i).bind fun j => xs[j]?
def toR {A : Type} : Option A → R A | some a => .ok a | none => .stk
def opIx : D → D → R D
  | .list xs, .int i => toR (atI xs i)
  | .tuple xs, .int i => toR (atI xs i)
  | .str z, .int i => if z.length ≤ szL then (toR (atI z.cps.toList i)).bind fun c => .ok (.str ⟨#[c]⟩) else .stk
  | .dict [(.none, .list xs)], .int i => toR (atI xs i)
  | _, _ => .stk
/-- xs[lo:hi] -/
def sIx (n d : Nat) : Option Int → Nat
  | none => d
  | some v => if v < 0 then (v + n).toNat else min v.toNat n
def cut {A : Type} (xs : List A) (lo hi : Option Int) : List A := (xs.drop (sIx xs.length 0 lo)).take (sIx xs.length xs.length hi - sIx xs.length 0 lo)
def opSl (a : D) (lo hi : Option Int) : R D := match a with
  | .list xs => .ok (.list (cut xs lo hi))
  | .tuple xs => .ok (.tuple (cut xs lo hi))
  | .str z => if z.length ≤ szL then .ok (.str ⟨(cut z.cps.toList lo hi).toArray⟩) else .stk
  | .dict [(.none, .list xs)] => .ok (.list (cut xs lo hi))
  | _ => .stk
/-- xs[::-1] -/
def opRev : D → R D
  | .list xs => .ok (.list xs.reverse)
  | _ => .stk

/-! ### expressions -/
def eV (i : Nat) : EF := fun e => match e[i]? with | some (.sh d) => .ok d | _ => .stk
/-- a name that is only looked at -/
def eB (i : Nat) : EF := fun e => match e[i]? with | some (.sh d) => .ok d | some (.ow xs) => .ok (.list xs) | _ => .stk
def eK (d : D) : EF := fun _ => .ok d
def e1 (op : D → R D) (f : EF) : EF := fun e => (f e).bind op
def e2 (op : D → D → R D) (f g : EF) : EF := fun e => (f e).bind fun a => (g e).bind fun b => op a b
def aN : LF := fun _ => .ok []
def aC (f : EF) (a : LF) : LF := fun e => (f e).bind fun d => (a e).bind fun ds => .ok (d :: ds)
def eL (a : LF) : EF := fun e => (a e).bind fun xs => .ok (.list xs)
def eT (a : LF) : EF := fun e => (a e).bind fun xs => .ok (.tuple xs)
/-- a call, of a def or a built-in -/
def eC (m : List D → R D) (a : LF) : EF := fun e => (a e).bind m
/-- a call that may look at lists of our own: what comes back holds none -/
def isSc : D → Bool | .list _ => false | .tuple _ => false | .dict _ => false | _ => true
def scal (r : R D) : R D := r.bind fun d => if isSc d then .ok d else .stk
def eCb (m : List D → R D) (a : LF) : EF := fun e => (a e).bind fun ds => scal (m ds)
def eSl (f : EF) (lo hi : Env → R (Option Int)) : EF := fun e => (f e).bind fun d => (lo e).bind fun l => (hi e).bind fun h => opSl d l h
def oN : Env → R (Option Int) := fun _ => .ok none
def oS (f : EF) : Env → R (Option Int) := fun e => (f e).bind fun d => (asI d).bind fun i => .ok (some i)
/-- a op b op' c -/
def eCh (op op' : D → D → R D) (f g h : EF) : EF := fun e => (f e).bind fun a => (g e).bind fun b => (op a b).bind fun r => (asB r).bind fun k => if k then (h e).bind fun c => op' b c else .ok (.bool false)
def eAnd (f g : EF) : EF := fun e => (f e).bind fun a => (asB a).bind fun b => if b then g e else .ok (.bool false)
def eOr (f g : EF) : EF := fun e => (f e).bind fun a => (asB a).bind fun b => if b then .ok (.bool true) else g e
def eNot (f : EF) : EF := fun e => (f e).bind fun a => (asB a).bind fun b => .ok (.bool !b)
def eIf (t : TF) (f g : EF) : EF := fun e => (t e).bind fun b => if b then f e else g e
def qV (f : EF) : TF := fun e => (f e).bind asB
def qAnd (t u : TF) : TF := fun e => (t e).bind fun b => if b then u e else .ok false
def qOr (t u : TF) : TF := fun e => (t e).bind fun b => if b then .ok true else u e
def qNot (t : TF) : TF := fun e => (t e).bind fun b => .ok !b
def qY : TF := fun _ => .ok true

/-! ### what is walked -/
def iL (f : EF) : LF := fun e => (f e).bind asL
def iT (f : EF) : LF := fun e => (f e).bind fun d => match d with | .tuple xs => .ok xs | _ => .stk
def iS (f : EF) : LF := fun e => (f e).bind fun d => match d with | .str z => .ok (z.cps.toList.map fun c => .str ⟨#[c]⟩) | _ => .stk
def rng (lo hi : Int) : List D := (List.range (hi - lo).toNat).map fun (k : Nat) => .int (lo + (k : Int))
def smI (i : Int) : Bool := decide (-(2 ^ 62) ≤ i ∧ i < 2 ^ 62)
def iR1 (f : EF) : LF := fun e => (f e).bind fun a => (asI a).bind fun n => if smI n then .ok (rng 0 n) else .stk
def iR2 (f g : EF) : LF := fun e => (f e).bind fun a => (g e).bind fun b => (asI a).bind fun m => (asI b).bind fun n => if smI m && smI n then .ok (rng m n) else .stk
def zipD : List D → List D → List D
  | a :: r, b :: q => .tuple [a, b] :: zipD r q
  | _, _ => []
def iZ (f g : EF) : LF := fun e => (f e).bind fun a => (g e).bind fun b => (asL a).bind fun xs => (asL b).bind fun ys => .ok (zipD xs ys)
def enD : Nat → List D → List D
  | _, [] => []
  | n, a :: r => .tuple [.int (n : Int), a] :: enD (n + 1) r
def iE (f : EF) : LF := fun e => (f e).bind fun a => (asL a).bind fun xs => .ok (enD 0 xs)

/-! ### stores -/
def gN (i : Nat) : GF := fun d e => .ok (e.set i (.sh d))
def gAll : List GF → List D → Env → R Env
  | [], [], e => .ok e
  | g :: gs, d :: ds, e => (g d e).bind fun e' => gAll gs ds e'
  | _, _, _ => .stk
def gT (gs : List GF) : GF := fun d e => match d with | .tuple ds => gAll gs ds e | _ => .stk

/-! ### comprehensions -/
def wip : List Nat → Env → Env
  | [], e => e
  | i :: r, e => (wip r e).set i .no
def cLoop (g : GF) (t : TF) (f : EF) (e : Env) : List D → R (List D)
  | [] => .ok []
  | x :: xs => ((g x e).calm).bind fun e1 => ((t e1).calm).bind fun b => if b then ((f e1).calm).bind fun d => (cLoop g t f e xs).bind fun ds => .ok (d :: ds) else cLoop g t f e xs
def cmp (it : LF) (vs : List Nat) (g : GF) (t : TF) (f : EF) : LF := fun e => (it e).bind fun xs => if xs.length ≤ szL then cLoop g t f (wip vs e) xs else .stk

/-! ### statements -/
def sNil : SF := fun e => .next e
def sSeq (a b : SF) : SF := fun e => match a e with | .next e' => b e' | r => r
def sSet (g : GF) (f : EF) : SF := fun e => (f e).out fun d => (g d e).out fun e' => .next e'
/-- what a def hands back that nobody else has: a list of our own, or what is no list -/
def svN : D → SV | .list xs => .ow xs | d => .sh d
def sSetN (i : Nat) (f : EF) : SF := fun e => (f e).out fun d => .next (e.set i (svN d))
/-- a list of our own comes to slot i -/
def sOwn (i : Nat) (f : LF) : SF := fun e => (f e).out fun xs => .next (e.set i (.ow xs))
/-- from here on the list at slot i is a datum -/
def frz (i : Nat) (e : Env) : Env := match e[i]? with | some (.ow xs) => e.set i (.sh (.list xs)) | _ => e
def sFrz (i : Nat) (s : SF) : SF := fun e => s (frz i e)
def sDo (f : EF) : SF := fun e => (f e).out fun _ => .next e
def sRet (f : EF) : SF := fun e => (f e).out .ret
def sRetN : SF := fun _ => .ret .none
def sIf (t : TF) (a b : SF) : SF := fun e => (t e).out fun k => if k then a e else b e
def sCont : SF := fun e => .cont e
def sBrk : SF := fun e => .brk e
def sRaise (c : Str) : SF := fun _ => .err c
def fLoop (g : GF) (b : SF) : List D → Env → Out
  | [], e => .next e
  | x :: xs, e => (g x e).out fun e1 => match b e1 with
    | .next e2 => fLoop g b xs e2
    | .cont e2 => fLoop g b xs e2
    | .brk e2 => .next e2
    | .ret d => .ret d
    | .err c => .err c
    | .stk => .stk
def sFor (it : LF) (g : GF) (b : SF) : SF := fun e => (it e).out fun xs => fLoop g b xs e
def wLoop (t : TF) (b : SF) : Nat → Env → Out
  | 0, _ => .stk
  | n + 1, e => (t e).out fun k => if k then (match b e with
    | .next e2 => wLoop t b n e2
    | .cont e2 => wLoop t b n e2
    | .brk e2 => .next e2
    | .ret d => .ret d
    | .err c => .err c
    | .stk => .stk) else .next e
def Out.isStk : Out → Bool | .stk => true | _ => false
open Classical in
noncomputable def sWhile (t : TF) (b : SF) : SF := fun e => if h : ∃ n, (wLoop t b n e).isStk = false then wLoop t b (Classical.choose h) e else .stk
/-- x.append(d), x.extend(ds), x[k] = d of our own list at slot i -/
def sApp (i : Nat) (f : EF) : SF := fun e => match e[i]? with
  | some (.ow xs) => (f e).out fun d => if xs.length < szL then .next (e.set i (.ow (xs ++ [d]))) else .stk
  | _ => .stk
def sExt (i : Nat) (f : EF) : SF := fun e => match e[i]? with
  | some (.ow xs) => (f e).out fun d => (asL d).out fun ys => if xs.length + ys.length ≤ szL then .next (e.set i (.ow (xs ++ ys))) else .stk
  | _ => .stk
def sPut (i : Nat) (k f : EF) : SF := fun e => match e[i]? with
  | some (.ow xs) => (f e).out fun d => (k e).out fun kd => (asI kd).out fun j => (toR (ixN xs.length j)).out fun n => .next (e.set i (.ow (xs.set n d)))
  | _ => .stk

/-- a def: so many slots, its body; its arguments come first -/
def fnR (n : Nat) (b : SF) : List D → R D := fun ds => match b (ds.map .sh ++ List.replicate (n - ds.length) .no) with
  | .next _ => .ok .none
  | .ret d => .ok d
  | .err c => .err c
  | _ => .stk

/-- try: body, except LoopError as error: return name_of(error) -/
def sTry (b : SF) (nm : Str → Option Str) : SF := fun e => match b e with
  | .err c => (match nm c with | some z => .ret (.str z) | none => .stk)
  | r => r
/-- isinstance of the exception at a -/
def isAdr (a : Nat) (b : Bool) : D → R D
  | .dict [(.bool true, .int n)] => if n = Int.ofNat a then .ok (.bool b) else .stk
  | _ => .stk

/-! ### built-ins -/
def bLen : List D → R D
  | [.list xs] => .ok (.int xs.length)
  | [.tuple xs] => .ok (.int xs.length)
  | [.str z] => if z.length ≤ szL then .ok (.int z.length) else .stk
  | [.dict [(.none, .list xs)]] => .ok (.int xs.length)
  | _ => .stk
inductive Ty where | int | bool | str | list | tuple
def isTy : Ty → D → Bool
  | .int, .int _ => true
  | .int, .bool _ => true
  | .bool, .bool _ => true
  | .str, .str _ => true
  | .list, .list _ => true
  | .tuple, .tuple _ => true
  | _, _ => false
def isScr : D → Bool | .dict (_ :: _) => true | _ => false
def bIsi (t : Ty) : List D → R D
  | [d] => if isScr d then .stk else .ok (.bool (isTy t d))
  | _ => .stk
def bInt : List D → R D
  | [.int i] => .ok (.int i)
  | [.bool b] => .ok (.int (if b then 1 else 0))
  | _ => .stk
def bAbs : List D → R D
  | [.int i] => .ok (.int (if i < 0 then -i else i))
  | _ => .stk
def bMax2 : List D → R D
  | [.int i, .int j] => .ok (.int (if j > i then j else i))
  | _ => .stk
def bMin2 : List D → R D
  | [.int i, .int j] => .ok (.int (if j < i then j else i))
  | _ => .stk
def maxL : List Int → Option Int
  | [] => none
  | x :: r => some (r.foldl (fun a b => if b > a then b else a) x)
def minL : List Int → Option Int
  | [] => none
  | x :: r => some (r.foldl (fun a b => if b < a then b else a) x)
def bMaxL : List D → R D
  | [.list xs] => (asIs xs).bind fun ns => (toR (maxL ns)).bind fun m => .ok (.int m)
  | _ => .stk
def bMinL : List D → R D
  | [.list xs] => (asIs xs).bind fun ns => (toR (minL ns)).bind fun m => .ok (.int m)
  | _ => .stk
def bSum : List D → R D
  | [.list xs] => (asIs xs).bind fun ns => .ok (.int ns.sum)
  | _ => .stk
def bAll : List D → R D
  | [.list xs] => (asBs xs).bind fun bs => .ok (.bool (bs.all id))
  | _ => .stk
def bList : List D → R D
  | [.list xs] => .ok (.list xs)
  | [.tuple xs] => .ok (.list xs)
  | _ => .stk
def bTup : List D → R D
  | [.list xs] => .ok (.tuple xs)
  | [.tuple xs] => .ok (.tuple xs)
  | _ => .stk
/-- str(n) -/
def bStr : List D → R D
  | [.int i] => if i.natAbs < 2 ^ 200 then .ok (.str (toString i)) else .stk
  | _ => .stk
/-- sep.join(texts) -/
def opJoin : D → D → R D
  | .str a, .list xs => (asSs xs).bind fun ys => if (ys.map (·.length)).sum + ys.length * a.length ≤ szL then .ok (.str (Str.join a ys)) else .stk
  | _, _ => .stk
def eJn (f g : EF) : EF := fun e => (f e).bind fun a => match a with
  | .str s => (g e).bind fun b => opJoin (.str s) b
  | _ => .stk
/-- what isn't told -/
def sStk : SF := fun _ => .stk
/-- list(range(a, b)) -/
def bLR (f g : EF) : LF := fun e => (f e).bind fun a => (g e).bind fun b => (asI a).bind fun m => (asI b).bind fun n => if smI m && smI n && decide ((n - m).toNat ≤ szL) then .ok (rng m n) else .stk
/-- xs * n, a new list -/
def lMul (f g : EF) : LF := fun e => (e2 opMul f g e).bind asL
theorem isAdr_eV (a : Nat) (b : Bool) (x : SV) : e1 (isAdr a b) (eV 0) [.sh (adr a), x] = .ok (.bool b) := by
  show (if Int.ofNat a = Int.ofNat a then R.ok (PyData.bool b) else .stk) = _
  rw [if_pos rfl]
theorem str0 (s : Str) : opMul (.str s) (.int 0) = .ok (.str Str.empty) := rfl
theorem str1 (s : Str) : opMul (.str s) (.int 1) = .ok (.str s) := rfl
theorem add_str (s t : Str) (h : s.length + t.length ≤ szL) : opAdd (.str s) (.str t) = .ok (.str (s ++ t)) := if_pos h
theorem eB1 (x : SV) (d : D) : eB 1 [x, .sh d] = .ok d := rfl
theorem ix0 (a b : D) : opIx (.list [a, b]) (.int 0) = .ok a := rfl
end PL

namespace PL
open PySem PySem.Spec PyProof.Rows L2
abbrev St := L2.St

/-! ### data in the heap -/
mutual
/-- the value stands for the datum -/
inductive Rp (K : PySem.W.Frag) (H : Hp) : V → D → Prop
  | non : Rp K H .non .none
  | bl (b : Bool) : Rp K H (.bl b) (.bool b)
  | int (i : Int) : Rp K H (.int i) (.int i)
  | str (x : Str) : Rp K H (.str x) (.str x)
  | lst {a : Addr} {xs : List V} {ds : List D} : H a = some (.lst xs) → RpA K H xs ds → Rp K H (.ref a) (.list ds)
  | tup {a : Addr} {xs : List V} {ds : List D} : H a = some (.tup xs) → RpA K H xs ds → Rp K H (.ref a) (.tuple ds)
  | dic {a : Addr} : H a = some (.dK []) → Rp K H (.ref a) (.dict [])
  | scr {a : Addr} {xs : List V} {ds : List D} : SqL K H a xs → RpA K H xs ds → Rp K H (.ref a) (PL.scr ds)
  | adr (a : Addr) : Rp K H (.ref a) (PL.adr a)
inductive RpA (K : PySem.W.Frag) (H : Hp) : List V → List D → Prop
  | nil : RpA K H [] []
  | cons {v : V} {vs : List V} {d : D} {ds : List D} : Rp K H v d → RpA K H vs ds → RpA K H (v :: vs) (d :: ds)
end
section
variable {K : PySem.W.Frag} {H H' : Hp}
mutual
theorem Rp.mono (e : Same H H') : ∀ (d : D) (v : V), Rp K H v d → Rp K H' v d
  | .none, _, h => by cases h; exact .non
  | .bool _, _, h => by cases h; exact .bl _
  | .int _, _, h => by cases h; exact .int _
  | .str _, _, h => by cases h; exact .str _
  | .list ds, _, h => by cases h with | lst h1 h2 => exact .lst (e _ _ h1) (RpA.mono e ds _ h2)
  | .tuple ds, _, h => by cases h with | tup h1 h2 => exact .tup (e _ _ h1) (RpA.mono e ds _ h2)
  | .dict [], _, h => by cases h with | dic h1 => exact .dic (e _ _ h1)
  | .dict [(.none, .list ds)], _, h => by cases h with | scr h1 h2 => exact .scr (e.seq h1) (RpA.mono e ds _ h2)
  | .dict [(.bool true, .int n)], _, h => by cases h with | adr a => exact .adr a
theorem RpA.mono (e : Same H H') : ∀ (ds : List D) (vs : List V), RpA K H vs ds → RpA K H' vs ds
  | [], _, h => by cases h; exact .nil
  | d :: ds, _, h => by cases h with | cons h1 h2 => exact .cons (Rp.mono e d _ h1) (RpA.mono e ds _ h2)
end
theorem Rp.up {v : V} {d : D} (h : Rp K H v d) (e : Same H H') : Rp K H' v d := Rp.mono e d v h
theorem RpA.up {vs : List V} {ds : List D} (h : RpA K H vs ds) (e : Same H H') : RpA K H' vs ds := RpA.mono e ds vs h
theorem RpA.length {vs : List V} {ds : List D} (h : RpA K H vs ds) : vs.length = ds.length := by
  induction ds generalizing vs with
  | nil => cases h; rfl
  | cons d ds ih => cases h with | cons h1 h2 => simp [ih h2]
theorem RpA.append : ∀ {ds es : List D} {vs ws : List V}, RpA K H vs ds → RpA K H ws es → RpA K H (vs ++ ws) (ds ++ es)
  | [], _, _, _, h, g => by cases h; exact g
  | _ :: _, _, _, _, h, g => by cases h with | cons h1 h2 => exact .cons h1 (RpA.append h2 g)
theorem RpA.get : ∀ {ds : List D} {vs : List V} {i : Nat} {d : D}, RpA K H vs ds → ds[i]? = some d → ∃ v, vs[i]? = some v ∧ Rp K H v d
  | [], _, _, _, _, e => by simp at e
  | _ :: _, _, 0, _, h, e => by cases h with | cons h1 h2 => simp at e; subst e; exact ⟨_, rfl, h1⟩
  | _ :: _, _, i + 1, _, h, e => by cases h with | cons h1 h2 => exact RpA.get (i := i) h2 (by simpa using e)
theorem RpA.getV : ∀ {ds : List D} {vs : List V} {i : Nat} {v : V}, RpA K H vs ds → vs[i]? = some v → ∃ d, ds[i]? = some d ∧ Rp K H v d
  | [], _, _, _, h, e => by cases h; simp at e
  | _ :: _, _, 0, _, h, e => by cases h with | cons h1 h2 => simp at e; subst e; exact ⟨_, rfl, h1⟩
  | _ :: _, _, i + 1, _, h, e => by cases h with | cons h1 h2 => exact RpA.getV (i := i) h2 (by simpa using e)
theorem RpA.set : ∀ {ds : List D} {vs : List V} {i : Nat} {d : D} {v : V}, RpA K H vs ds → Rp K H v d → RpA K H (vs.set i v) (ds.set i d)
  | [], _, _, _, _, h, _ => by cases h; exact .nil
  | _ :: _, _, 0, _, _, h, g => by cases h with | cons h1 h2 => exact .cons g h2
  | _ :: _, _, i + 1, _, _, h, g => by cases h with | cons h1 h2 => exact .cons h1 (RpA.set h2 g)
theorem RpA.drop : ∀ {ds : List D} {vs : List V} (n : Nat), RpA K H vs ds → RpA K H (vs.drop n) (ds.drop n)
  | _, _, 0, h => h
  | [], _, _ + 1, h => by cases h; exact .nil
  | _ :: _, _, n + 1, h => by cases h with | cons h1 h2 => exact RpA.drop n h2
theorem RpA.take : ∀ {ds : List D} {vs : List V} (n : Nat), RpA K H vs ds → RpA K H (vs.take n) (ds.take n)
  | _, _, 0, _ => .nil
  | [], _, _ + 1, h => by cases h; exact .nil
  | _ :: _, _, n + 1, h => by cases h with | cons h1 h2 => exact .cons h1 (RpA.take n h2)
theorem RpA.reverse : ∀ {ds : List D} {vs : List V}, RpA K H vs ds → RpA K H vs.reverse ds.reverse
  | [], _, h => by cases h; exact .nil
  | _ :: _, _, h => by cases h with | cons h1 h2 => rw [List.reverse_cons, List.reverse_cons]; exact (RpA.reverse h2).append (.cons h1 .nil)
theorem RpA.reps {ds : List D} {vs : List V} (h : RpA K H vs ds) : ∀ k : Nat, RpA K H (List.replicate k vs).flatten (List.replicate k ds).flatten
  | 0 => .nil
  | k + 1 => by rw [List.replicate_succ, List.flatten_cons, List.replicate_succ, List.flatten_cons]; exact h.append (RpA.reps h k)
theorem Rp.scal {v : V} {d : D} (h : Rp K H v d) (s : isSc d = true) (H' : Hp) : Rp K H' v d := by
  cases h with
  | non => exact .non
  | bl b => exact .bl b
  | int i => exact .int i
  | str x => exact .str x
  | lst _ _ => exact absurd (show false = true from s) Bool.false_ne_true
  | tup _ _ => exact absurd (show false = true from s) Bool.false_ne_true
  | dic _ => exact absurd (show false = true from s) Bool.false_ne_true
  | scr _ _ => exact absurd (show false = true from s) Bool.false_ne_true
  | adr _ => exact absurd (show false = true from s) Bool.false_ne_true
end

/-! ### how heaps grow: H the whole, Hs the part that stays for good -/
structure Grow (H Hs H' Hs' : Hp) : Prop where
  all : Same H H'
  sh : Same Hs Hs'
  sub : Same Hs' H'
  own : ∀ p o, H p = some o → Hs p = none → Hs' p = none
section
variable {H Hs H1 Hs1 H2 Hs2 : Hp} {p : Addr} {o : HO}
theorem Grow.refl (s : Same Hs H) : Grow H Hs H Hs := ⟨Same.refl _, Same.refl _, s, fun _ _ _ n => n⟩
theorem Grow.trans (a : Grow H Hs H1 Hs1) (b : Grow H1 Hs1 H2 Hs2) : Grow H Hs H2 Hs2 :=
  ⟨a.all.trans b.all, a.sh.trans b.sh, b.sub, fun p o h n => b.own p o (a.all p o h) (a.own p o h n)⟩
theorem same_upd (n : H p = none) : Same H (upd H p o) := fun b x e => by rw [upd_ne (ne_of_none e n)]; exact e
theorem free_sub (s : Same Hs H) (n : H p = none) : Hs p = none := s.free n
theorem Grow.new (s : Same Hs H) (n : H p = none) : Grow H Hs (upd H p o) (upd Hs p o) := by
  refine ⟨same_upd n, same_upd (free_sub s n), fun b x e => ?_, fun b x e m => ?_⟩
  · by_cases hb : b = p
    · subst hb; rw [upd_same] at e ⊢; exact e
    · rw [upd_ne hb] at e ⊢; exact s _ _ e
  · rw [upd_ne (ne_of_none e n)]; exact m
/-- something new that we don't count -/
theorem Grow.gar (s : Same Hs H) (n : H p = none) : Grow H Hs (upd H p o) Hs :=
  ⟨same_upd n, Same.refl _, s.trans (same_upd n), fun _ _ _ m => m⟩
end

/-! ### a def's slots -/
structure SR (K : PySem.W.Frag) (e : Env) (σ : St) (H Hs : Hp) : Prop where
  sub : Same Hs H
  len : e.length = σ.length
  sh : ∀ (i : Nat) (d : D), e[i]? = some (SV.sh d) → ∃ v, σ[i]? = some (some v) ∧ Rp K Hs v d
  ow : ∀ (i : Nat) (xs : List D), e[i]? = some (SV.ow xs) → ∃ p vs, σ[i]? = some (some (V.ref p)) ∧ H p = some (.lst vs) ∧ Hs p = none ∧ RpA K Hs vs xs
  ne : ∀ (i j : Nat) (xs ys : List D) (p : Addr), e[i]? = some (SV.ow xs) → e[j]? = some (SV.ow ys) → σ[i]? = some (some (V.ref p)) → σ[j]? = some (some (V.ref p)) → i = j
section
variable {K : PySem.W.Frag} {e : Env} {σ : St} {H Hs H' Hs' : Hp}
theorem SR.grow (s : SR K e σ H Hs) (g : Grow H Hs H' Hs') : SR K e σ H' Hs' :=
  ⟨g.sub, s.len, fun i d h => let ⟨v, a, b⟩ := s.sh i d h; ⟨v, a, b.up g.sh⟩,
    fun i xs h => let ⟨p, vs, a, b, c, d⟩ := s.ow i xs h; ⟨p, vs, a, g.all _ _ b, g.own _ _ b c, d.up g.sh⟩, s.ne⟩
end

/-! ### what holds behind an expression -/
abbrev clsV (mg : Str → Option Value) (c : Str) : Value := (mg c).getD .none
/-- Rep: how what comes back stands for the answer -/
def Post {A B : Type} (X : Cx) (W : WX) (σ : St) (H Hs : Hp) (Rep : Hp → Hp → Hp → B → A → Prop) (r : R A) (Q : B → Hp → Prop) : Prop :=
  match r with
  | .ok a => ∀ b H' Hs', Grow H Hs H' Hs' → Rep H H' Hs' b a → Q b H'
  | .err c => ∀ H', Same H H' → W (clsV X.mg c) none σ H'
  | .stk => False
abbrev RepE (K : PySem.W.Frag) : Hp → Hp → Hp → V → D → Prop := fun _ _ Hs' v d => Rp K Hs' v d
/-- looked at: a datum, or a list of our own -/
def Bo (K : PySem.W.Frag) (H Hs : Hp) (v : V) (d : D) : Prop := Rp K Hs v d ∨ ∃ p vs xs, v = .ref p ∧ d = .list xs ∧ H p = some (.lst vs) ∧ RpA K Hs vs xs
abbrev RepB (K : PySem.W.Frag) : Hp → Hp → Hp → V → D → Prop := fun _ H' Hs' v d => Bo K H' Hs' v d
/-- a new list -/
abbrev RepF (K : PySem.W.Frag) : Hp → Hp → Hp → V → List D → Prop := fun H H' Hs' v xs => ∃ p vs, v = .ref p ∧ H p = none ∧ H' p = some (.lst vs) ∧ Hs' p = none ∧ RpA K Hs' vs xs
abbrev RepA (K : PySem.W.Frag) : Hp → Hp → Hp → List V → List D → Prop := fun _ _ Hs' vs ds => RpA K Hs' vs ds
/-- looked at, each of them -/
inductive BoA (K : PySem.W.Frag) (H Hs : Hp) : List V → List D → Prop
  | nil : BoA K H Hs [] []
  | cons {v : V} {vs : List V} {d : D} {ds : List D} : Bo K H Hs v d → BoA K H Hs vs ds → BoA K H Hs (v :: vs) (d :: ds)
abbrev RepBA (K : PySem.W.Frag) : Hp → Hp → Hp → List V → List D → Prop := fun _ H' Hs' vs ds => BoA K H' Hs' vs ds
abbrev RepT : Hp → Hp → Hp → Bool → Bool → Prop := fun _ _ _ b k => b = k
abbrev RepO : Hp → Hp → Hp → Option Int → Option Int → Prop := fun _ _ _ b k => b = k
section
variable {K : PySem.W.Frag} {H Hs H' Hs' : Hp} {v : V} {d : D}
theorem Bo.up (h : Bo K H Hs v d) (g : Grow H Hs H' Hs') : Bo K H' Hs' v d := by
  rcases h with h | ⟨p, vs, xs, a, b, c, e⟩
  · exact .inl (h.up g.sh)
  · exact .inr ⟨p, vs, xs, a, b, g.all _ _ c, e.up g.sh⟩
theorem Bo.rp (h : Bo K H Hs v d) (s : Same Hs H) : Rp K H v d := by
  rcases h with h | ⟨p, vs, xs, rfl, rfl, c, e⟩
  · exact h.up s
  · exact .lst c (e.up s)
theorem Bo.list {xs : List D} (h : Bo K H Hs v (.list xs)) (s : Same Hs H) : ∃ p vs, v = .ref p ∧ H p = some (.lst vs) ∧ RpA K Hs vs xs := by
  rcases h with h | ⟨p, vs, xs', rfl, e1, c, e⟩
  · cases h with | lst h1 h2 => exact ⟨_, _, rfl, s _ _ h1, h2⟩
  · cases e1; exact ⟨p, vs, rfl, c, e⟩
theorem Bo.tuple {xs : List D} (h : Bo K H Hs v (.tuple xs)) (s : Same Hs H) : ∃ p vs, v = .ref p ∧ H p = some (.tup vs) ∧ RpA K Hs vs xs := by
  rcases h with h | ⟨p, vs, xs', rfl, e1, c, e⟩
  · cases h with | tup h1 h2 => exact ⟨_, _, rfl, s _ _ h1, h2⟩
  · cases e1
theorem Bo.scr {xs : List D} (h : Bo K H Hs v (PL.scr xs)) (s : Same Hs H) : ∃ p vs, v = .ref p ∧ SqL K H p vs ∧ RpA K Hs vs xs := by
  rcases h with h | ⟨p, vs, xs', rfl, e1, c, e⟩
  · cases h with | scr h1 h2 => exact ⟨_, _, rfl, s.seq h1, h2⟩
  · cases e1
theorem Bo.dict (h : Bo K H Hs v (.dict [])) (s : Same Hs H) : ∃ p, v = .ref p ∧ H p = some (.dK []) := by
  rcases h with h | ⟨p, vs, xs', rfl, e1, c, e⟩
  · cases h with | dic h1 => exact ⟨_, rfl, s _ _ h1⟩
  · cases e1
theorem Bo.int {i : Int} (h : Bo K H Hs v (.int i)) : v = .int i := by
  rcases h with h | ⟨p, vs, xs', rfl, e1, c, e⟩
  · cases h; rfl
  · cases e1
theorem Bo.str {i : Str} (h : Bo K H Hs v (.str i)) : v = .str i := by
  rcases h with h | ⟨p, vs, xs', rfl, e1, c, e⟩
  · cases h; rfl
  · cases e1
theorem Bo.bool {i : Bool} (h : Bo K H Hs v (.bool i)) : v = .bl i := by
  rcases h with h | ⟨p, vs, xs', rfl, e1, c, e⟩
  · cases h; rfl
  · cases e1
theorem Bo.none (h : Bo K H Hs v .none) : v = .non := by
  rcases h with h | ⟨p, vs, xs', rfl, e1, c, e⟩
  · cases h; rfl
  · cases e1
theorem Rp.int' {i : Int} (h : Rp K H v (.int i)) : v = .int i := by cases h; rfl
theorem Rp.bool' {i : Bool} (h : Rp K H v (.bool i)) : v = .bl i := by cases h; rfl
theorem BoA.up {vs : List V} {ds : List D} (h : BoA K H Hs vs ds) (g : Grow H Hs H' Hs') : BoA K H' Hs' vs ds := by
  induction h with
  | nil => exact .nil
  | cons a _ ih => exact .cons (a.up g) ih
theorem BoA.rp {vs : List V} {ds : List D} (h : BoA K H Hs vs ds) (s : Same Hs H) : RpA K H vs ds := by
  induction h with
  | nil => exact .nil
  | cons a _ ih => exact .cons (a.rp s) ih
theorem RpA.bo : ∀ {ds : List D} {vs : List V}, RpA K Hs vs ds → BoA K H Hs vs ds
  | [], _, h => by cases h; exact .nil
  | _ :: _, _, h => by cases h with | cons h1 h2 => exact .cons (.inl h1) (RpA.bo h2)
end
section
variable {X : Cx} {W : WX} {σ : St} {H Hs H1 Hs1 : Hp}
theorem Post.grow {A B : Type} {Rep : Hp → Hp → Hp → B → A → Prop} {r : R A} {Q : B → Hp → Prop} (h : Post X W σ H Hs Rep r Q) (g : Grow H Hs H1 Hs1)
    (an : ∀ H' Hs' b a, Rep H1 H' Hs' b a → Rep H H' Hs' b a) : Post X W σ H1 Hs1 Rep r Q := by
  cases r with
  | ok a => exact fun b H' Hs' g' rp => h b H' Hs' (g.trans g') (an _ _ _ _ rp)
  | err c => exact fun H' s' => h H' (g.all.trans s')
  | stk => exact h
theorem Post.bind {A B C E : Type} {Rep1 : Hp → Hp → Hp → B → A → Prop} {Rep2 : Hp → Hp → Hp → E → C → Prop} {r : R A} {k : A → R C} {Q : E → Hp → Prop} (hp : Post X W σ H Hs Rep2 (r.bind k) Q)
    {T : B → Hp → Prop} (an : ∀ H1, Same H H1 → ∀ H' Hs' b a, Rep2 H1 H' Hs' b a → Rep2 H H' Hs' b a)
    (h : ∀ a b H1 Hs1, r = .ok a → Grow H Hs H1 Hs1 → Rep1 H H1 Hs1 b a → Post X W σ H1 Hs1 Rep2 (k a) Q → T b H1) : Post X W σ H Hs Rep1 r T := by
  cases r with
  | ok a => exact fun b H1 Hs1 g rp => h a b H1 Hs1 rfl g rp (Post.grow (A := C) hp g (an H1 g.all))
  | err c => exact hp
  | stk => exact hp
theorem anE {B A : Type} {G : Hp → Hp → B → A → Prop} : ∀ H1, Same H H1 → ∀ H' Hs' b a, (fun (_ : Hp) H' Hs' b a => G H' Hs' b a) H1 H' Hs' b a → (fun (_ : Hp) H' Hs' b a => G H' Hs' b a) H H' Hs' b a := fun _ _ _ _ _ _ h => h
end

/-! ### the judgements -/
structure PPE (X : Cx) (W : WX) (ex : Expr) (f : EF) : Prop where
  out : ∃ t : TE, PE X ex t ∧ ∀ e σ H Hs Q, SR X.K e σ H Hs → Post X W σ H Hs (RepE X.K) (f e) Q → t σ H Q
/-- looked at -/
structure PPB (X : Cx) (W : WX) (ex : Expr) (f : EF) : Prop where
  out : ∃ t : TE, PE X ex t ∧ ∀ e σ H Hs Q, SR X.K e σ H Hs → Post X W σ H Hs (RepB X.K) (f e) Q → t σ H Q
/-- a new list -/
structure PPF (X : Cx) (W : WX) (ex : Expr) (f : LF) : Prop where
  out : ∃ t : TE, PE X ex t ∧ ∀ e σ H Hs Q, SR X.K e σ H Hs → Post X W σ H Hs (RepF X.K) (f e) Q → t σ H Q
structure PPA (X : Cx) (W : WX) (es : List Expr) (f : LF) : Prop where
  out : ∃ t : TA, PA X es t ∧ ∀ e σ H Hs Q, SR X.K e σ H Hs → Post X W σ H Hs (RepA X.K) (f e) Q → t σ H Q
  len : ∀ e ds, f e = .ok ds → ds.length = es.length
structure PPBA (X : Cx) (W : WX) (es : List Expr) (f : LF) : Prop where
  out : ∃ t : TA, PA X es t ∧ ∀ e σ H Hs Q, SR X.K e σ H Hs → Post X W σ H Hs (RepBA X.K) (f e) Q → t σ H Q
structure PPT (X : Cx) (W : WX) (ex : Expr) (f : TF) : Prop where
  out : ∃ t : TT, PT X ex t ∧ ∀ e σ H Hs Q, SR X.K e σ H Hs → Post X W σ H Hs RepT (f e) Q → t σ H Q
structure PPW (X : Cx) (W : WX) (ex : Expr) (f : TF) : Prop where
  out : ∃ t : TT, PW X ex t ∧ ∀ e σ H Hs Q, SR X.K e σ H Hs → Post X W σ H Hs RepT (f e) Q → t σ H Q
structure PPO (X : Cx) (W : WX) (ex : Option Expr) (f : Env → R (Option Int)) : Prop where
  out : ∃ t : TO, PO X ex t ∧ ∀ e σ H Hs Q, SR X.K e σ H Hs → Post X W σ H Hs RepO (f e) Q → t σ H Q

section
variable {X : Cx} {W : WX} {a b c : Expr} {f g h : EF} {pos : Pos}
theorem PPE.bo (p : PPE X W a f) : PPB X W a f := by
  obtain ⟨t, pa, ha⟩ := p.out
  refine ⟨t, pa, fun e σ H Hs Q s hp => ha e σ H Hs Q s ?_⟩
  revert hp
  cases f e with
  | ok d => exact fun hp v H' Hs' g rp => hp v H' Hs' g (.inl rp)
  | err c => exact fun hp => hp
  | stk => exact fun hp => hp
theorem PPW.pt (p : PPW X W a q) : PPT X W a q := let ⟨t, pa, ha⟩ := p.out; ⟨t, pa.pt, ha⟩

/-! ### names and constants -/
theorem ppe_v (i : Nat) {x : Str} (hN : X.N[i]? = some x := by rfl) (hv : Vis X.env.scope x := by first | exact Or.inl rfl | exact Or.inr (Or.inl rfl) | exact Or.inr (Or.inr rfl)) (hd : (x == ("__debug__" : Str)) = false := by decide)
    (hcd : (x == ("__classdict__" : Str)) = false := by decide) : PPE X W (.Name x pos) (eV i) := by
  refine ⟨tVar i, pe_var hN hv hd hcd, fun e σ H Hs Q s hp => ?_⟩
  unfold eV at hp
  split at hp
  · rename_i d hd
    obtain ⟨v, h1, h2⟩ := s.sh i d hd
    exact ⟨v, h1, hp v H Hs (Grow.refl s.sub) h2⟩
  · exact hp.elim
theorem ppb_v (i : Nat) {x : Str} (hN : X.N[i]? = some x := by rfl) (hv : Vis X.env.scope x := by first | exact Or.inl rfl | exact Or.inr (Or.inl rfl) | exact Or.inr (Or.inr rfl)) (hd : (x == ("__debug__" : Str)) = false := by decide)
    (hcd : (x == ("__classdict__" : Str)) = false := by decide) : PPB X W (.Name x pos) (eB i) := by
  refine ⟨tVar i, pe_var hN hv hd hcd, fun e σ H Hs Q s hp => ?_⟩
  unfold eB at hp
  split at hp
  · rename_i d hd
    obtain ⟨v, h1, h2⟩ := s.sh i d hd
    exact ⟨v, h1, hp v H Hs (Grow.refl s.sub) (.inl h2)⟩
  · rename_i xs hd
    obtain ⟨p, vs, h1, h2, h3, h4⟩ := s.ow i xs hd
    exact ⟨_, h1, hp _ H Hs (Grow.refl s.sub) (.inr ⟨p, vs, xs, rfl, rfl, h2, h4⟩)⟩
  · exact hp.elim
theorem ppe_k {ex : Expr} {v : V} {d : D} (hp : PE X ex (tC v)) (hr : ∀ Hs, Rp X.K Hs v d) : PPE X W ex (eK d) :=
  ⟨tC v, hp, fun e σ H Hs Q s hp => hp v H Hs (Grow.refl s.sub) (hr Hs)⟩
theorem ppe_int {i : Int} {j} : PPE X W (.Constant (.int i) j pos) (eK (.int i)) := ppe_k pe_int fun _ => .int i
theorem ppe_bl {i : Bool} {j} : PPE X W (.Constant (.bool i) j pos) (eK (.bool i)) := ppe_k pe_bl fun _ => .bl i
theorem ppe_str {i : Str} {j} : PPE X W (.Constant (.str i) j pos) (eK (.str i)) := ppe_k pe_str fun _ => .str i
theorem ppe_non {j} : PPE X W (.Constant .none j pos) (eK .none) := ppe_k pe_non fun _ => .non
/-- a module's constant -/
theorem ppe_gi {x : Str} {i : Int} (hm : ∃ t, X.mg x = some (.int i t)) (hg : Gl X x := by rfl) (hd : (x == ("__debug__" : Str)) = false := by decide) : PPE X W (.Name x pos) (eK (.int i)) := by
  obtain ⟨t, hm⟩ := hm
  exact ppe_k (pe_glob hg hm (v := .int i) ⟨_, rfl⟩ hd) fun _ => .int i
theorem ppe_gs {x : Str} {i : Str} (hm : ∃ t, X.mg x = some (.str i t)) (hg : Gl X x := by rfl) (hd : (x == ("__debug__" : Str)) = false := by decide) : PPE X W (.Name x pos) (eK (.str i)) := by
  obtain ⟨t, hm⟩ := hm
  exact ppe_k (pe_glob hg hm (v := .str i) ⟨_, rfl⟩ hd) fun _ => .str i

/-! ### operators: their rules over data -/
/-- f, a two-place operation of the machine, does what op tells -/
def OpS (X : Cx) (f : Value → Value → Sem Value) (op : D → D → R D) : Prop :=
  ∃ r : R2, OpR X f r ∧ ∀ (W : WX) (σ : St) (H Hs : Hp) (x y : V) (d1 d2 : D) (Q : VK), Same Hs H → Bo X.K H Hs x d1 → Bo X.K H Hs y d2 → Post X W σ H Hs (RepE X.K) (op d1 d2) Q → r x y H Q
def UnS (X : Cx) (f : Value → Sem Value) (op : D → R D) : Prop :=
  ∃ r : V → Hp → VK → Prop, UnR X f r ∧ ∀ (W : WX) (σ : St) (H Hs : Hp) (x : V) (d : D) (Q : VK), Same Hs H → Bo X.K H Hs x d → Post X W σ H Hs (RepE X.K) (op d) Q → r x H Q
def CaS (X : Cx) (f : Value) (m : List D → R D) : Prop :=
  ∃ r : List V → Hp → VK → Prop, CallR X f r ∧ ∀ (W : WX) (σ : St) (H Hs : Hp) (xs : List V) (ds : List D) (Q : VK), Same Hs H → BoA X.K H Hs xs ds → Post X W σ H Hs (RepE X.K) (m ds) Q → r xs H Q

theorem ppe_op {op : Operator} {o : D → D → R D} (ho : OpS X (binaryOp op) o) (ha : PPB X W a f) (hb : PPB X W b g) : PPE X W (.BinOp a op b pos) (e2 o f g) := by
  obtain ⟨ta, pa, ha⟩ := ha.out
  obtain ⟨tb, pb, hb⟩ := hb.out
  obtain ⟨r, ho, hr⟩ := ho
  refine ⟨tOp r ta tb, pe_op ho pa pb, fun e σ H Hs Q s hp => ?_⟩
  refine ha e σ H Hs _ s (Post.bind hp anE fun d1 x H1 Hs1 _ g1 r1 hp1 => ?_)
  refine hb e σ H1 Hs1 _ (s.grow g1) (Post.bind hp1 anE fun d2 y H2 Hs2 _ g2 r2 hp2 => ?_)
  exact hr W σ H2 Hs2 x y d1 d2 Q g2.sub (r1.up g2) r2 hp2
theorem ppe_un {op : UnaryOp} {o : D → R D} (ho : UnS X (unaryOp op) o) (ha : PPB X W a f) : PPE X W (.UnaryOp op a pos) (e1 o f) := by
  obtain ⟨ta, pa, ha⟩ := ha.out
  obtain ⟨r, ho, hr⟩ := ho
  refine ⟨tUn r ta, pe_un ho pa, fun e σ H Hs Q s hp => ?_⟩
  refine ha e σ H Hs _ s (Post.bind hp anE fun d1 x H1 Hs1 _ g1 r1 hp1 => ?_)
  exact hr W σ H1 Hs1 x d1 Q g1.sub r1 hp1
/-- a comparison as a value; as a test -/
theorem ppe_cmp {op : CmpOp} {o : D → D → R D} (ho : OpS X (compareOp op) o) (ha : PPB X W a f) (hb : PPB X W b g) (hm : behindInMarks op b = false) : PPE X W (.Compare a [op] [b] pos) (e2 o f g) := by
  obtain ⟨ta, pa, ha⟩ := ha.out
  obtain ⟨tb, pb, hb⟩ := hb.out
  obtain ⟨r, ho, hr⟩ := ho
  refine ⟨tOp r ta tb, pe_cmpR ho pa pb hm, fun e σ H Hs Q s hp => ?_⟩
  refine ha e σ H Hs _ s (Post.bind hp anE fun d1 x H1 Hs1 _ g1 r1 hp1 => ?_)
  refine hb e σ H1 Hs1 _ (s.grow g1) (Post.bind hp1 anE fun d2 y H2 Hs2 _ g2 r2 hp2 => ?_)
  exact hr W σ H2 Hs2 x y d1 d2 Q g2.sub (r1.up g2) r2 hp2
theorem post_asB {σ : St} {H Hs : Hp} {Q : Bool → Hp → Prop} {d : D} {v : V} {H1 Hs1 : Hp} (g1 : Grow H Hs H1 Hs1) (s : Same Hs H) (hp : Post X W σ H Hs RepT (asB d) Q) (rv : Rp X.K Hs1 v d) : ∃ k, v = .bl k ∧ Q k H1 := by
  cases d with
  | bool k => exact ⟨k, rv.bool', hp k H1 Hs1 g1 rfl⟩
  | _ => exact (show False from hp).elim
theorem ppt_cmp {op : CmpOp} {o : D → D → R D} (ho : OpS X (compareOp op) o) (ha : PPB X W a f) (hb : PPB X W b g) (hm : behindInMarks op b = false) : PPT X W (.Compare a [op] [b] pos) (qV (e2 o f g)) := by
  obtain ⟨ta, pa, ha⟩ := ha.out
  obtain ⟨tb, pb, hb⟩ := hb.out
  obtain ⟨r, ho, hr⟩ := ho
  refine ⟨tTest (tOp r ta tb), pt_cmpR ho pa pb hm, fun e σ H Hs Q s hp => ?_⟩
  have hp' : Post X W σ H Hs (RepE X.K) (e2 o f g e) (fun x H' => ∃ k, x = V.bl k ∧ Q k H') :=
    Post.bind hp anE fun d x H1 Hs1 _ g1 r1 hp1 => post_asB (Grow.refl g1.sub) g1.sub hp1 r1
  refine ha e σ H Hs _ s (Post.bind hp' anE fun d1 x H1 Hs1 _ g1 r1 hp1 => ?_)
  refine hb e σ H1 Hs1 _ (s.grow g1) (Post.bind hp1 anE fun d2 y H2 Hs2 _ g2 r2 hp2 => ?_)
  exact hr W σ H2 Hs2 x y d1 d2 _ g2.sub (r1.up g2) r2 hp2
/-- any expression as a test whose value is a truth -/
theorem ppt_v (ha : PPE X W a f) (he : ∀ whole, isTrue a X.env whole = (do let v ← whole; standAt a.pos; holding [v] (truthy v)) := by intro _; rfl) : PPT X W a (qV f) := by
  obtain ⟨ta, pa, ha⟩ := ha.out
  refine ⟨tB ta, pt_val pa he, fun e σ H Hs Q s hp => ?_⟩
  exact ha e σ H Hs _ s (Post.bind hp anE fun d x H1 Hs1 _ g1 r1 hp1 => post_asB (Grow.refl g1.sub) g1.sub hp1 r1)
end
end PL

namespace PL
open PySem PySem.Spec PyProof.Rows L2

section
variable {X : Cx} {W : WX} {a b c : Expr} {f g h : EF} {pos : Pos} {t u : TF} {rest : List Expr}
/-! ### and, or, not, if-else, chains -/
theorem ppt_not (ha : PPT X W a t) : PPT X W (.UnaryOp .Not a pos) (qNot t) := by
  obtain ⟨ta, pa, ha⟩ := ha.out
  refine ⟨_, pt_not pa, fun e σ H Hs Q s hp => ?_⟩
  refine ha e σ H Hs _ s (Post.bind hp anE fun d x H1 Hs1 _ g1 r1 hp1 => ?_)
  subst r1
  exact hp1 _ H1 Hs1 (Grow.refl g1.sub) rfl
theorem ppw_and1 (ha : PPT X W a t) : PPW X W (.BoolOp .And [a] pos) t := let ⟨ta, pa, ha⟩ := ha.out; ⟨ta, pw_and1 pa, ha⟩
theorem ppw_or1 (ha : PPT X W a t) : PPW X W (.BoolOp .Or [a] pos) t := let ⟨ta, pa, ha⟩ := ha.out; ⟨ta, pw_or1 pa, ha⟩
theorem ppw_and (ha : PPT X W a t) (hb : PPW X W (.BoolOp .And (b :: rest) pos) u) : PPW X W (.BoolOp .And (a :: b :: rest) pos) (qAnd t u) := by
  obtain ⟨ta, pa, ha⟩ := ha.out
  obtain ⟨tb, pb, hb⟩ := hb.out
  refine ⟨_, pw_and pa pb, fun e σ H Hs Q s hp => ?_⟩
  refine ha e σ H Hs _ s (Post.bind hp anE fun d x H1 Hs1 _ g1 r1 hp1 => ?_)
  subst r1
  cases x with
  | true => exact hb e σ H1 Hs1 Q (s.grow g1) hp1
  | false => exact hp1 _ H1 Hs1 (Grow.refl g1.sub) rfl
theorem ppw_or (ha : PPT X W a t) (hb : PPW X W (.BoolOp .Or (b :: rest) pos) u) : PPW X W (.BoolOp .Or (a :: b :: rest) pos) (qOr t u) := by
  obtain ⟨ta, pa, ha⟩ := ha.out
  obtain ⟨tb, pb, hb⟩ := hb.out
  refine ⟨_, pw_or pa pb, fun e σ H Hs Q s hp => ?_⟩
  refine ha e σ H Hs _ s (Post.bind hp anE fun d x H1 Hs1 _ g1 r1 hp1 => ?_)
  subst r1
  cases x with
  | false => exact hb e σ H1 Hs1 Q (s.grow g1) hp1
  | true => exact hp1 _ H1 Hs1 (Grow.refl g1.sub) rfl
theorem ppe_not (ha : PPE X W a f) : PPE X W (.UnaryOp .Not a pos) (eNot f) := by
  obtain ⟨ta, pa, ha⟩ := ha.out
  refine ⟨_, pe_not pa, fun e σ H Hs Q s hp => ?_⟩
  refine ha e σ H Hs _ s (Post.bind hp anE fun d x H1 Hs1 _ g1 r1 hp1 => ?_)
  cases d with
  | bool k => exact ⟨k, r1.bool', hp1 _ H1 Hs1 (Grow.refl g1.sub) (.bl _)⟩
  | _ => exact (show False from hp1).elim
theorem ppe_one {op} (ha : PPE X W a f) : PPE X W (.BoolOp op [a] pos) f := let ⟨ta, pa, ha⟩ := ha.out; ⟨ta, pe_one pa, ha⟩
theorem ppe_and (ha : PPE X W a f) (hb : PPE X W (.BoolOp .And (b :: rest) pos) g) : PPE X W (.BoolOp .And (a :: b :: rest) pos) (eAnd f g) := by
  obtain ⟨ta, pa, ha⟩ := ha.out
  obtain ⟨tb, pb, hb⟩ := hb.out
  refine ⟨_, pe_and pa pb, fun e σ H Hs Q s hp => ?_⟩
  refine ha e σ H Hs _ s (Post.bind hp anE fun d x H1 Hs1 _ g1 r1 hp1 => ?_)
  cases d with
  | bool k =>
    refine ⟨k, r1.bool', ?_⟩
    cases k with
    | true => exact hb e σ H1 Hs1 Q (s.grow g1) hp1
    | false => exact hp1 _ H1 Hs1 (Grow.refl g1.sub) (.bl _)
  | _ => exact (show False from hp1).elim
theorem ppe_or (ha : PPE X W a f) (hb : PPE X W (.BoolOp .Or (b :: rest) pos) g) : PPE X W (.BoolOp .Or (a :: b :: rest) pos) (eOr f g) := by
  obtain ⟨ta, pa, ha⟩ := ha.out
  obtain ⟨tb, pb, hb⟩ := hb.out
  refine ⟨_, pe_or pa pb, fun e σ H Hs Q s hp => ?_⟩
  refine ha e σ H Hs _ s (Post.bind hp anE fun d x H1 Hs1 _ g1 r1 hp1 => ?_)
  cases d with
  | bool k =>
    refine ⟨k, r1.bool', ?_⟩
    cases k with
    | false => exact hb e σ H1 Hs1 Q (s.grow g1) hp1
    | true => exact hp1 _ H1 Hs1 (Grow.refl g1.sub) (.bl _)
  | _ => exact (show False from hp1).elim
theorem ppe_if (hc : PPT X W c t) (ha : PPE X W a f) (hb : PPE X W b g) : PPE X W (.IfExp c a b pos) (eIf t f g) := by
  obtain ⟨tc, pc, hc⟩ := hc.out
  obtain ⟨ta, pa, ha⟩ := ha.out
  obtain ⟨tb, pb, hb⟩ := hb.out
  refine ⟨_, pe_ifExp pc pa pb, fun e σ H Hs Q s hp => ?_⟩
  refine hc e σ H Hs _ s (Post.bind hp anE fun d x H1 Hs1 _ g1 r1 hp1 => ?_)
  subst r1
  cases x with
  | true => exact ha e σ H1 Hs1 Q (s.grow g1) hp1
  | false => exact hb e σ H1 Hs1 Q (s.grow g1) hp1
theorem chain_post {op op' : D → D → R D} {r r' : R2} {tc : TE} {σ : St} {H Hs : Hp} {e : Env} {Q : VK} {x y : V} {d1 d2 : D} (s : SR X.K e σ H Hs) (hx : Bo X.K H Hs x d1) (hy : Bo X.K H Hs y d2)
    (hr : ∀ (W : WX) (σ : St) (H Hs : Hp) (x y : V) (d1 d2 : D) (Q : VK), Same Hs H → Bo X.K H Hs x d1 → Bo X.K H Hs y d2 → Post X W σ H Hs (RepE X.K) (op d1 d2) Q → r x y H Q)
    (hr' : ∀ (W : WX) (σ : St) (H Hs : Hp) (x y : V) (d1 d2 : D) (Q : VK), Same Hs H → Bo X.K H Hs x d1 → Bo X.K H Hs y d2 → Post X W σ H Hs (RepE X.K) (op' d1 d2) Q → r' x y H Q)
    (hc : ∀ e σ H Hs Q, SR X.K e σ H Hs → Post X W σ H Hs (RepB X.K) (h e) Q → tc σ H Q)
    (hp : Post X W σ H Hs (RepE X.K) ((op d1 d2).bind fun r => (asB r).bind fun k => if k then (h e).bind fun c => op' d2 c else .ok (.bool false)) Q) :
    r x y H fun z H3 => ∃ k, z = .bl k ∧ (if k = true then tc σ H3 fun w' H4 => r' y w' H4 Q else Q (.bl false) H3) := by
  refine hr W σ H Hs x y d1 d2 _ s.sub hx hy (Post.bind hp anE fun d z H3 Hs3 _ g3 r3 hp3 => ?_)
  cases d with
  | bool k =>
    refine ⟨k, r3.bool', ?_⟩
    cases k with
    | true =>
      have hp4 : Post X W σ H3 Hs3 (RepE X.K) ((h e).bind fun c => op' d2 c) Q := hp3
      refine hc e σ H3 Hs3 _ (s.grow g3) (Post.bind hp4 anE fun d3 w H4 Hs4 _ g4 r4 hp4 => ?_)
      exact hr' W σ H4 Hs4 y w d2 d3 Q g4.sub ((hy.up g3).up g4) r4 hp4
    | false => exact hp3 _ H3 Hs3 (Grow.refl g3.sub) (.bl _)
  | _ => exact (show False from hp3).elim
theorem ppe_chain {op op' : CmpOp} {o o' : D → D → R D} (ho : OpS X (compareOp op) o) (ho' : OpS X (compareOp op') o') (ha : PPB X W a f) (hb : PPB X W b g) (hc : PPB X W c h)
    (hm : lastMarks [op, op'] [b, c] = false := by with_unfolding_all rfl) : PPE X W (.Compare a [op, op'] [b, c] pos) (eCh o o' f g h) := by
  obtain ⟨ta, pa, ha⟩ := ha.out
  obtain ⟨tb, pb, hb⟩ := hb.out
  obtain ⟨tc, pc, hc⟩ := hc.out
  obtain ⟨r, ho, hr⟩ := ho
  obtain ⟨r', ho', hr'⟩ := ho'
  refine ⟨tChain r r' ta tb tc, pe_chain ho ho' pa pb pc hm, fun e σ H Hs Q s hp => ?_⟩
  refine ha e σ H Hs _ s (Post.bind hp anE fun d1 x H1 Hs1 _ g1 r1 hp1 => ?_)
  refine hb e σ H1 Hs1 _ (s.grow g1) (Post.bind hp1 anE fun d2 y H2 Hs2 _ g2 r2 hp2 => ?_)
  exact chain_post (s.grow (g1.trans g2)) (r1.up g2) r2 hr hr' hc hp2
theorem ppt_chain {op op' : CmpOp} {o o' : D → D → R D} (ho : OpS X (compareOp op) o) (ho' : OpS X (compareOp op') o') (ha : PPB X W a f) (hb : PPB X W b g) (hc : PPB X W c h)
    (hm : lastMarks [op, op'] [b, c] = false := by with_unfolding_all rfl) : PPT X W (.Compare a [op, op'] [b, c] pos) (qV (eCh o o' f g h)) := by
  obtain ⟨ta, pa, ha⟩ := ha.out
  obtain ⟨tb, pb, hb⟩ := hb.out
  obtain ⟨tc, pc, hc⟩ := hc.out
  obtain ⟨r, ho, hr⟩ := ho
  obtain ⟨r', ho', hr'⟩ := ho'
  refine ⟨tTest (tChain r r' ta tb tc), pt_chain ho ho' pa pb pc hm, fun e σ H Hs Q s hp => ?_⟩
  have hp' : Post X W σ H Hs (RepE X.K) (eCh o o' f g h e) (fun x H' => ∃ k, x = V.bl k ∧ Q k H') :=
    Post.bind hp anE fun d x H1 Hs1 _ g1 r1 hp1 => post_asB (Grow.refl g1.sub) g1.sub hp1 r1
  refine ha e σ H Hs _ s (Post.bind hp' anE fun d1 x H1 Hs1 _ g1 r1 hp1 => ?_)
  refine hb e σ H1 Hs1 _ (s.grow g1) (Post.bind hp1 anE fun d2 y H2 Hs2 _ g2 r2 hp2 => ?_)
  exact chain_post (s.grow (g1.trans g2)) (r1.up g2) r2 hr hr' hc hp2
end

/-! ### the operators over data -/
section
variable {X : Cx}
theorem ops_of {F : Value → Value → Sem Value} {op : D → D → R D} (r : R2) (ho : OpR X F r)
    (h : ∀ (W : WX) (σ : St) (H Hs : Hp) (x y : V) (d1 d2 : D) (Q : VK), Same Hs H → Bo X.K H Hs x d1 → Bo X.K H Hs y d2 → Post X W σ H Hs (RepE X.K) (op d1 d2) Q → r x y H Q) : OpS X F op := ⟨r, ho, h⟩
theorem os_sub : OpS X (binaryOp .Sub) opSub := by
  refine ops_of _ op_sub fun W σ H Hs x y d1 d2 Q s hx hy hp => ?_
  cases d1 <;> cases d2 <;> first
    | exact (show False from hp).elim
    | (rename_i i j; exact ⟨i, j, hx.int, hy.int, hp _ H Hs (Grow.refl s) (.int _)⟩)
theorem cmul_of {i j : Int} (h : mulB i j = true) : CMul i j ∨ CMulW i j := by
  unfold mulB at h
  simp only [Bool.or_eq_true, decide_eq_true_eq] at h
  rcases h with (h | h) | h
  · exact .inl (.inl h)
  · exact .inl (.inr h)
  · exact .inr h
theorem HT_sIx (n d : Nat) (o : Option Int) : HT.sIx n d o = sIx n d o := by
  cases o with
  | none => rfl
  | some v =>
    unfold HT.sIx sIx
    first
      | rfl
      | (simp only []; split <;> simp <;> omega)
theorem cut_eq {A : Type} (xs : List A) (lo hi : Option Int) : cut xs lo hi = (xs.drop (HT.sIx xs.length 0 lo)).take (HT.sIx xs.length xs.length hi - HT.sIx xs.length 0 lo) := by
  unfold cut
  rw [HT_sIx, HT_sIx]

theorem os_add : OpS X (binaryOp .Add) opAdd := by
  refine ops_of _ (op_add.or (op_cat.or (op_catA.or op_add_str))) fun W σ H Hs x y d1 d2 Q s hx hy hp => ?_
  cases d1 <;> cases d2 <;> first
    | exact (show False from hp).elim
    | skip
  · rename_i i j
    exact .inl ⟨i, j, hx.int, hy.int, hp _ H Hs (Grow.refl s) (.int _)⟩
  · rename_i i j
    dsimp only [opAdd] at hp
    split at hp
    · rename_i hz
      exact .inr (.inr (.inr ⟨i, j, hx.str, hy.str, hz, hp _ H Hs (Grow.refl s) (.str _)⟩))
    · exact hp.elim
  · rename_i i j
    dsimp only [opAdd] at hp
    split at hp
    · rename_i hz
      obtain ⟨p, vs, rfl, h1, r1⟩ := hx.list s
      obtain ⟨q, ws, rfl, h2, r2⟩ := hy.list s
      refine .inr (.inl ⟨p, q, vs, ws, rfl, rfl, h1, h2, by rw [r1.length, r2.length]; exact hz, fun l hl => hp _ _ _ (Grow.new s hl) (.lst upd_same ((r1.append r2).up (Grow.new (o := .lst (vs ++ ws)) s hl).sh))⟩)
    · exact hp.elim
  · rename_i i j
    dsimp only [opAdd] at hp
    split at hp
    · rename_i hz
      obtain ⟨p, vs, rfl, h1, r1⟩ := hx.tuple s
      obtain ⟨q, ws, rfl, h2, r2⟩ := hy.tuple s
      refine .inr (.inr (.inl ⟨p, q, vs, ws, rfl, rfl, SqT.of h1, SqT.of h2, by rw [r1.length, r2.length]; exact hz, fun e => ?_, fun _ e => ?_, fun _ _ l hl => hp _ _ _ (Grow.new s hl) (.tup upd_same ((r1.append r2).up (Grow.new (o := .tup (vs ++ ws)) s hl).sh))⟩))
      · subst e
        cases r1
        rcases hy with hy | ⟨_, _, _, _, z, _⟩
        · exact hp _ H Hs (Grow.refl s) hy
        · cases z
      · subst e
        cases r2
        rcases hx with hx | ⟨_, _, _, _, z, _⟩
        · rw [List.append_nil] at hp
          exact hp _ H Hs (Grow.refl s) hx
        · cases z
    · exact hp.elim
theorem rep_str_ok : OpR X (binaryOp .Mult) (fun x y H Q => ∃ z k, x = .str z ∧ y = .int k ∧ ((k = 0 ∧ Q (.str Str.empty) H) ∨ (k = 1 ∧ Q (.str z) H))) := by
  intro pins s σ H x y v u Q I rx ry h
  obtain ⟨z, k, rfl, rfl, h⟩ := h
  obtain ⟨t, rfl⟩ := rx
  obtain ⟨t', rfl⟩ := ry
  rcases h with ⟨rfl, q⟩ | ⟨rfl, q⟩
  · exact PySem.P.mul_str_none (by decide) (by decide) ⟨.str _, H, I.tok _, ⟨_, rfl⟩, q⟩
  · refine PySem.P.mul_str (by decide) (fun _ e => ?_) (fun _ e => ?_) ?_
    · exact absurd e (by simp)
    · exact absurd e (by simp)
    · rw [if_neg (by decide), if_pos (by simp)]
      exact ⟨.str _, H, I, ⟨_, rfl⟩, q⟩
theorem os_mul : OpS X (binaryOp .Mult) opMul := by
  refine ops_of _ (op_mul.or (op_mulW.or (op_rep.or rep_str_ok))) fun W σ H Hs x y d1 d2 Q s hx hy hp => ?_
  cases d1 <;> cases d2 <;> first
    | exact (show False from hp).elim
    | skip
  · rename_i i j
    dsimp only [opMul] at hp
    split at hp
    · rename_i hz
      rcases cmul_of hz with h | h
      · exact .inl ⟨i, j, hx.int, hy.int, h, hp _ H Hs (Grow.refl s) (.int _)⟩
      · exact .inr (.inl ⟨i, j, hx.int, hy.int, h, hp _ H Hs (Grow.refl s) (.int _)⟩)
    · exact hp.elim
  · rename_i z k
    dsimp only [opMul] at hp
    split at hp
    · rename_i hz
      exact .inr (.inr (.inr ⟨z, k, hx.str, hy.int, .inl ⟨hz, hp _ H Hs (Grow.refl s) (.str _)⟩⟩))
    · split at hp
      · rename_i hz
        exact .inr (.inr (.inr ⟨z, k, hx.str, hy.int, .inr ⟨hz, hp _ H Hs (Grow.refl s) (.str _)⟩⟩))
      · exact hp.elim
  · rename_i i k
    dsimp only [opMul] at hp
    split at hp
    · rename_i hz
      obtain ⟨p, vs, rfl, h1, r1⟩ := hx.list s
      refine .inr (.inr (.inl ⟨p, k, vs, rfl, hy.int, h1, by omega, by omega, by rw [r1.length]; exact hz.2.2, fun l hl => hp _ _ _ (Grow.new s hl) (.lst upd_same ((r1.reps _).up (Grow.new (o := .lst (List.replicate k.toNat vs).flatten) s hl).sh))⟩))
    · exact hp.elim
theorem os_div : OpS X (binaryOp .FloorDiv) opDiv := by
  refine ops_of _ op_fdivW fun W σ H Hs x y d1 d2 Q s hx hy hp => ?_
  cases d1 <;> cases d2 <;> first
    | exact (show False from hp).elim
    | skip
  rename_i i j
  dsimp only [opDiv] at hp
  split at hp
  · rename_i hz
    exact ⟨i, j, hx.int, hy.int, hz, hp _ H Hs (Grow.refl s) (.int _)⟩
  · exact hp.elim
theorem os_mod : OpS X (binaryOp .Mod) opMod := by
  refine ops_of _ op_mod fun W σ H Hs x y d1 d2 Q s hx hy hp => ?_
  cases d1 <;> cases d2 <;> first
    | exact (show False from hp).elim
    | skip
  rename_i i j
  dsimp only [opMod] at hp
  split at hp
  · rename_i hz
    exact ⟨i, j, hx.int, hy.int, hz, hp _ H Hs (Grow.refl s) (.int _)⟩
  · exact hp.elim
theorem os_pow : OpS X (binaryOp .Pow) opPow := by
  refine ops_of _ op_pow fun W σ H Hs x y d1 d2 Q s hx hy hp => ?_
  cases d1 <;> cases d2 <;> first
    | exact (show False from hp).elim
    | skip
  rename_i i j
  dsimp only [opPow] at hp
  split at hp
  · rename_i hz
    exact ⟨i, j, hx.int, hy.int, ⟨hz.1, by omega, hz.2.2⟩, hp _ H Hs (Grow.refl s) (.int _)⟩
  · exact hp.elim
theorem us_neg : UnS X (unaryOp .USub) opNeg := by
  refine ⟨_, un_neg, fun W σ H Hs x d Q s hx hp => ?_⟩
  cases d <;> first
    | exact (show False from hp).elim
    | skip
  exact ⟨_, hx.int, hp _ H Hs (Grow.refl s) (.int _)⟩
theorem cmp_of {F : Value → Value → Sem Value} {g : Int → Int → Bool} {op : D → D → R D} (ho : OpR X F (rI0 fun i j => .bl (g i j))) (h1 : ∀ i j, op (.int i) (.int j) = .ok (.bool (g i j))) (h2 : ∀ d1 d2, op d1 d2 = .stk ∨ ∃ i j, d1 = .int i ∧ d2 = .int j) : OpS X F op := by
  refine ops_of _ ho fun W σ H Hs x y d1 d2 Q s hx hy hp => ?_
  rcases h2 d1 d2 with e | ⟨i, j, rfl, rfl⟩
  · rw [e] at hp; exact (show False from hp).elim
  · rw [h1] at hp
    exact ⟨i, j, hx.int, hy.int, hp _ H Hs (Grow.refl s) (.bl _)⟩
theorem os_lt : OpS X (compareOp .Lt) opLt := cmp_of op_lt (fun _ _ => rfl) fun d1 d2 => by cases d1 <;> cases d2 <;> first | exact .inl rfl | exact .inr ⟨_, _, rfl, rfl⟩
theorem os_le : OpS X (compareOp .LtE) opLe := cmp_of op_le (fun _ _ => rfl) fun d1 d2 => by cases d1 <;> cases d2 <;> first | exact .inl rfl | exact .inr ⟨_, _, rfl, rfl⟩
theorem os_gt : OpS X (compareOp .Gt) opGt := cmp_of op_gt (fun _ _ => rfl) fun d1 d2 => by cases d1 <;> cases d2 <;> first | exact .inl rfl | exact .inr ⟨_, _, rfl, rfl⟩
theorem os_ge : OpS X (compareOp .GtE) opGe := cmp_of op_ge (fun _ _ => rfl) fun d1 d2 => by cases d1 <;> cases d2 <;> first | exact .inl rfl | exact .inr ⟨_, _, rfl, rfl⟩
/-- x is None -/
theorem isNone_v {K : PySem.W.Frag} {H Hs : Hp} {x : V} {d : D} (h : Bo K H Hs x d) (s : Same Hs H) : decide (x = .non) = isNone d := by
  have h := h.rp s
  cases h <;> rfl
theorem os_is : OpS X (compareOp .Is) opIs := by
  refine ops_of _ (op_isN.or op_isBl) fun W σ H Hs x y d1 d2 Q s hx hy hp => ?_
  unfold opIs at hp
  split at hp
  · refine .inl ⟨hy.none, ?_⟩
    rw [isNone_v hx s]
    exact hp _ H Hs (Grow.refl s) (.bl _)
  · split at hp
    · exact .inr ⟨_, _, hx.bool, hy.bool, hp _ H Hs (Grow.refl s) (.bl _)⟩
    · exact (show False from hp).elim
  · exact (show False from hp).elim
theorem os_isnot : OpS X (compareOp .IsNot) opIsNot := by
  refine ops_of _ (op_notN.or op_notBl) fun W σ H Hs x y d1 d2 Q s hx hy hp => ?_
  unfold opIsNot at hp
  split at hp
  · refine .inl ⟨hy.none, ?_⟩
    rw [isNone_v hx s]
    exact hp _ H Hs (Grow.refl s) (.bl _)
  · split at hp
    · exact .inr ⟨_, _, hx.bool, hy.bool, hp _ H Hs (Grow.refl s) (.bl _)⟩
    · exact (show False from hp).elim
  · exact (show False from hp).elim
end
end PL

namespace PL
open PySem PySem.Spec PyProof.Rows L2

/-! ### == at any depth -/
section
variable {X : Cx} {pins : List (Addr × Obj)} {σ : St} {H : Hp} {s : Shared}
theorem dict_eqAt (I : Inv X pins σ H s) {A : Around} (hu : A.units < cLine) {a b : Addr} (ha : H a = some (.dK [])) (hb : H b = some (.dK [])) : SeqAt.EqAt A s (.ref a) (.ref b) true := by
  by_cases e : a = b
  · subst e
    exact SeqAt.EqAt.same _
  · refine SeqAt.EqAt.of_refs e fun prog w E Q q => ?_
    obtain ⟨_, ya, va, ra, da⟩ := (show ObjOk X.prog X.w H s.heap a (.dK []) from I.hok a _ ha)
    obtain ⟨_, yb, vb, rb, db⟩ := (show ObjOk X.prog X.w H s.heap b (.dK []) from I.hok b _ hb)
    cases ra
    cases rb
    have cv : ∀ {c : Addr}, s.heap.DictOf (mixKind X.prog X.w) c [] → s.heap.DictOf (mixKind prog w) c [] := fun {c} h => by
      obtain ⟨o, es, ep, h1, h2, h3, h4, h5, h6⟩ := h
      have e0 : es.toList = [] := by
        cases q : es.toList with
        | nil => rfl
        | cons x r =>
          rw [q] at h5
          first
            | cases h5
            | exact absurd (congrArg List.length h5) (by simp)
            | simp at h5
      have e1 : es = #[] := by
        cases es
        simp at e0
        rw [e0]
      subst e1
      refine ⟨o, #[], ep, h1, h2, h3, ?_, ?_, h6⟩
      · first
          | exact fun e he => absurd he (by simp)
          | simp [KeysOf]
      · first
          | exact .nil
          | simp [Pairs]
    refine PySem.W.rcP_dicts (knd := mixKind prog w) (r := true) ya yb (cv da) (cv db) hu (fun _ => .nil) E Q ?_
    exact q
theorem sameAll_len : ∀ {a b : List D}, sameAll a b = true → a.length = b.length
  | [], [], _ => rfl
  | [], _ :: _, h => by simp [sameAll] at h
  | _ :: _, [], h => by simp [sameAll] at h
  | _ :: r, _ :: q, h => by
    unfold sameAll at h
    rw [Bool.and_eq_true] at h
    rw [List.length_cons, List.length_cons, sameAll_len h.2]
theorem range_all_true (n : Nat) : ((List.range n).all fun _ => true) = true := List.all_eq_true.mpr fun _ _ => rfl
mutual
theorem eqAt_same (I : Inv X pins σ H s) : ∀ (d e : D) (n : Nat) (A : Around) (x y : V) (v u : Value), A.units + n < cLine → same d e = true → lowD n d = true → Rp X.K H x d → Rp X.K H y e → RelV x v → RelV y u → SeqAt.EqAt A s v u true
  | .none, e, _, A, x, y, v, u, _, hs, _, h1, h2, r1, r2 => by
    cases e <;> first | exact absurd (show false = true from hs) Bool.false_ne_true | skip
    cases h1; cases h2; cases r1; cases r2
    exact SeqAt.EqAt.same _
  | .bool a, e, _, A, x, y, v, u, _, hs, _, h1, h2, r1, r2 => by
    cases e <;> first | exact absurd (show false = true from hs) Bool.false_ne_true | skip
    rename_i b
    have hs' : (a == b) = true := hs
    cases h1; cases h2; cases r1; cases r2
    rw [← hs']
    exact SeqAt.EqAt.bool_bool a b
  | .int a, e, _, A, x, y, v, u, _, hs, _, h1, h2, r1, r2 => by
    cases e <;> first | exact absurd (show false = true from hs) Bool.false_ne_true | skip
    rename_i b
    have hs' : (a == b) = true := hs
    cases h1; cases h2
    obtain ⟨t, rfl⟩ := r1
    obtain ⟨t', rfl⟩ := r2
    rw [← hs']
    exact SeqAt.EqAt.int_int a t b t'
  | .str a, e, _, A, x, y, v, u, _, hs, _, h1, h2, r1, r2 => by
    cases e <;> first | exact absurd (show false = true from hs) Bool.false_ne_true | skip
    rename_i b
    have hs' : decide (a = b) = true := hs
    have e' := of_decide_eq_true hs'
    subst e'
    cases h1; cases h2
    obtain ⟨t, rfl⟩ := r1
    obtain ⟨t', rfl⟩ := r2
    have z := SeqAt.EqAt.str_str (A := A) (s := s) a t a t'
    rwa [beq_self_eq_true] at z
  | .list ds, e, 0, A, x, y, v, u, _, hs, hl, h1, h2, r1, r2 => absurd (show false = true from by simpa [lowD] using hl) Bool.false_ne_true
  | .list ds, e, n + 1, A, x, y, v, u, hu, hs, hl, h1, h2, r1, r2 => by
    cases e <;> first | exact absurd (show false = true from by simpa [same] using hs) Bool.false_ne_true | skip
    rename_i es
    cases h1 with
    | lst h1 g1 =>
      cases h2 with
      | lst h2 g2 =>
        rename_i a xs b ys
        cases r1
        cases r2
        by_cases e : a = b
        · subst e
          exact SeqAt.EqAt.same _
        · refine SeqAt.EqAt.of_refs e ?_
          obtain ⟨us, k1, p1, _⟩ := I.list (SqL.of h1)
          obtain ⟨ws, k2, p2, _⟩ := I.list (SqL.of h2)
          have hs' : sameAll ds es = true := by simpa [same] using hs
          have hsz : us.toArray.size = ws.toArray.size := by
            rw [List.size_toArray, List.size_toArray, ← k1.length, ← k2.length, g1.length, g2.length, sameAll_len hs']
          have z := SeqAt.RcAt.lists (A := A) (e := fun _ => true) p1.isList p2.isList hsz (by omega) (fun j h1 h2 => by
            have k := eqAt_sameAll I ds es n A.in1 xs ys us ws (by show A.units + 1 + n < cLine; omega) hs' (by simpa [lowD] using hl) g1 g2 k1 k2 j (by simpa using h1) (by simpa using h2)
            simpa using k)
          rwa [range_all_true] at z
  | .tuple ds, e, 0, A, x, y, v, u, _, hs, hl, h1, h2, r1, r2 => absurd (show false = true from by simpa [lowD] using hl) Bool.false_ne_true
  | .tuple ds, e, n + 1, A, x, y, v, u, hu, hs, hl, h1, h2, r1, r2 => by
    cases e <;> first | exact absurd (show false = true from by simpa [same] using hs) Bool.false_ne_true | skip
    rename_i es
    cases h1 with
    | tup h1 g1 =>
      cases h2 with
      | tup h2 g2 =>
        rename_i a xs b ys
        cases r1
        cases r2
        by_cases e : a = b
        · subst e
          exact SeqAt.EqAt.same _
        · refine SeqAt.EqAt.of_refs e ?_
          obtain ⟨us, k1, p1, _⟩ := I.tuple (SqT.of h1)
          obtain ⟨ws, k2, p2, _⟩ := I.tuple (SqT.of h2)
          have hs' : sameAll ds es = true := by simpa [same] using hs
          have hsz : us.toArray.size = ws.toArray.size := by
            rw [List.size_toArray, List.size_toArray, ← k1.length, ← k2.length, g1.length, g2.length, sameAll_len hs']
          have z := SeqAt.RcAt.tuples (A := A) (s := s) (e := fun _ => true) (show s.heap.IsTuple a us.toArray from p1) (show s.heap.IsTuple b ws.toArray from p2) (by omega) (fun j h1 h2 => by
            have k := eqAt_sameAll I ds es n A.in1 xs ys us ws (by show A.units + 1 + n < cLine; omega) hs' (by simpa [lowD] using hl) g1 g2 k1 k2 j (by simpa using h1) (by simpa using h2)
            simpa using k)
          rw [range_all_true, hsz] at z
          simpa using z
  | .dict kvs, e, 0, A, x, y, v, u, _, hs, hl, h1, h2, r1, r2 => absurd (show false = true from by simpa [lowD] using hl) Bool.false_ne_true
  | .dict [], e, n + 1, A, x, y, v, u, hu, hs, hl, h1, h2, r1, r2 => by
    cases e with
    | dict k2 =>
      cases k2 with
      | nil =>
        cases h1 with
        | dic h1 =>
          cases h2 with
          | dic h2 =>
            cases r1
            cases r2
            exact dict_eqAt I (by omega) h1 h2
      | cons _ _ => exact absurd (show false = true from by simpa [same] using hs) Bool.false_ne_true
    | _ => exact absurd (show false = true from by simpa [same] using hs) Bool.false_ne_true
  | .dict (_ :: _), e, n + 1, A, x, y, v, u, hu, hs, hl, h1, h2, r1, r2 => absurd (show false = true from by simpa [lowD] using hl) Bool.false_ne_true
theorem eqAt_sameAll (I : Inv X pins σ H s) : ∀ (ds es : List D) (n : Nat) (A : Around) (xs ys : List V) (us ws : List Value), A.units + n < cLine → sameAll ds es = true → lowAll n ds = true → RpA X.K H xs ds → RpA X.K H ys es → Vals xs us → Vals ys ws →
    ∀ j (h1 : j < us.length) (h2 : j < ws.length), SeqAt.EqAt A s us[j] ws[j] true
  | [], es, n, A, xs, ys, us, ws, _, _, _, g1, _, k1, _, j, h1, _ => by cases g1; cases k1; exact absurd h1 (Nat.not_lt_zero j)
  | d :: ds, [], n, A, xs, ys, us, ws, _, hs, _, _, _, _, _, j, _, _ => absurd (show false = true from by simpa [sameAll] using hs) Bool.false_ne_true
  | d :: ds, e :: es, n, A, xs, ys, us, ws, hu, hs, hl, g1, g2, k1, k2, j, h1, h2 => by
    unfold sameAll at hs
    unfold lowAll at hl
    rw [Bool.and_eq_true] at hs hl
    cases g1 with
    | cons a1 b1 =>
      cases g2 with
      | cons a2 b2 =>
        cases k1 with
        | cons p1 q1 =>
          cases k2 with
          | cons p2 q2 =>
            cases j with
            | zero => exact eqAt_same I d e n A _ _ _ _ hu hs.1 hl.1 a1 a2 p1 p2
            | succ j => exact eqAt_sameAll I ds es n A _ _ _ _ hu hs.2 hl.2 b1 b2 q1 q2 j (Nat.lt_of_succ_lt_succ h1) (Nat.lt_of_succ_lt_succ h2)
end
/-- at the top: no dict -/
theorem rcAt_same (I : Inv X pins σ H s) (d e : D) (n : Nat) (A : Around) (x y : V) (v u : Value) (hu : A.units + (n + 1) < cLine) (hs : same d e = true) (hl : lowD (n + 1) d = true) (hd : isDic d = false) (h1 : Rp X.K H x d) (h2 : Rp X.K H y e) (r1 : RelV x v) (r2 : RelV y u) :
    SeqAt.RcAt A s v u true ∧ SeqAt.RcNeAt A s v u false := by
  cases d with
  | none =>
    cases e <;> first | exact absurd (show false = true from hs) Bool.false_ne_true | skip
    cases h1; cases h2; cases r1; cases r2
    exact ⟨SeqAt.RcAt.none_none, SeqAt.RcNeAt.none_none⟩
  | bool a =>
    cases e <;> first | exact absurd (show false = true from hs) Bool.false_ne_true | skip
    rename_i b
    have hs' : (a == b) = true := hs
    cases h1; cases h2; cases r1; cases r2
    have z1 := SeqAt.RcAt.bool_bool (A := A) (s := s) a b
    have z2 := SeqAt.RcNeAt.bool_bool (A := A) (s := s) a b
    rw [hs'] at z1 z2
    exact ⟨z1, z2⟩
  | int a =>
    cases e <;> first | exact absurd (show false = true from hs) Bool.false_ne_true | skip
    rename_i b
    have hs' : (a == b) = true := hs
    cases h1; cases h2
    obtain ⟨t, rfl⟩ := r1
    obtain ⟨t', rfl⟩ := r2
    have z1 := SeqAt.RcAt.int_int (A := A) (s := s) a t b t'
    have z2 := SeqAt.RcNeAt.int_int (A := A) (s := s) a t b t'
    rw [hs'] at z1 z2
    exact ⟨z1, z2⟩
  | str a =>
    cases e <;> first | exact absurd (show false = true from hs) Bool.false_ne_true | skip
    rename_i b
    have hs' : decide (a = b) = true := hs
    have e' := of_decide_eq_true hs'
    subst e'
    cases h1; cases h2
    obtain ⟨t, rfl⟩ := r1
    obtain ⟨t', rfl⟩ := r2
    have z1 := SeqAt.RcAt.str_str (A := A) (s := s) a t a t'
    have z2 := SeqAt.RcNeAt.str_str (A := A) (s := s) a t a t'
    rw [beq_self_eq_true] at z1 z2
    exact ⟨z1, z2⟩
  | list ds =>
    cases e <;> first | exact absurd (show false = true from by simpa [same] using hs) Bool.false_ne_true | skip
    rename_i es
    cases h1 with
    | lst h1 g1 =>
      cases h2 with
      | lst h2 g2 =>
        rename_i a xs b ys
        cases r1
        cases r2
        obtain ⟨us, k1, p1, _⟩ := I.list (SqL.of h1)
        obtain ⟨ws, k2, p2, _⟩ := I.list (SqL.of h2)
        have hs' : sameAll ds es = true := by simpa [same] using hs
        have hsz : us.toArray.size = ws.toArray.size := by
          rw [List.size_toArray, List.size_toArray, ← k1.length, ← k2.length, g1.length, g2.length, sameAll_len hs']
        have el : ∀ j (h1 : j < us.toArray.size) (h2 : j < ws.toArray.size), SeqAt.EqAt A.in1 s us.toArray[j] ws.toArray[j] ((fun _ => true) j) := fun j h1 h2 => by
          have k := eqAt_sameAll I ds es n A.in1 xs ys us ws (by show A.units + 1 + n < cLine; omega) hs' (by simpa [lowD] using hl) g1 g2 k1 k2 j (by simpa using h1) (by simpa using h2)
          simpa using k
        have z1 := SeqAt.RcAt.lists (A := A) (e := fun _ => true) p1.isList p2.isList hsz (by omega) el
        have z2 := SeqAt.RcNeAt.lists (A := A) (e := fun _ => true) p1.isList p2.isList hsz (by omega) el
        rw [range_all_true] at z1 z2
        exact ⟨z1, z2⟩
  | tuple ds =>
    cases e <;> first | exact absurd (show false = true from by simpa [same] using hs) Bool.false_ne_true | skip
    rename_i es
    cases h1 with
    | tup h1 g1 =>
      cases h2 with
      | tup h2 g2 =>
        rename_i a xs b ys
        cases r1
        cases r2
        obtain ⟨us, k1, p1, _⟩ := I.tuple (SqT.of h1)
        obtain ⟨ws, k2, p2, _⟩ := I.tuple (SqT.of h2)
        have hs' : sameAll ds es = true := by simpa [same] using hs
        have hsz : us.toArray.size = ws.toArray.size := by
          rw [List.size_toArray, List.size_toArray, ← k1.length, ← k2.length, g1.length, g2.length, sameAll_len hs']
        have el : ∀ j (h1 : j < us.toArray.size) (h2 : j < ws.toArray.size), SeqAt.EqAt A.in1 s us.toArray[j] ws.toArray[j] ((fun _ => true) j) := fun j h1 h2 => by
          have k := eqAt_sameAll I ds es n A.in1 xs ys us ws (by show A.units + 1 + n < cLine; omega) hs' (by simpa [lowD] using hl) g1 g2 k1 k2 j (by simpa using h1) (by simpa using h2)
          simpa using k
        have z1 := SeqAt.RcAt.tuples (A := A) (s := s) (e := fun _ => true) (show s.heap.IsTuple a us.toArray from p1) (show s.heap.IsTuple b ws.toArray from p2) (by omega) el
        have z2 := SeqAt.RcNeAt.tuples (A := A) (s := s) (e := fun _ => true) (show s.heap.IsTuple a us.toArray from p1) (show s.heap.IsTuple b ws.toArray from p2) (by omega) el
        rw [range_all_true, hsz] at z1 z2
        exact ⟨by simpa using z1, by simpa using z2⟩
  | dict kvs => exact absurd (show true = false from hd) (by decide)
end

mutual
theorem dp_of {K : PySem.W.Frag} {H : Hp} : ∀ (n : Nat) (d : D) (v : V), flatD n d = true → Rp K H v d → Dp K H v d
  | _, .none, _, _, h => by cases h; exact .non
  | _, .bool b, _, _, h => by cases h; exact .bl b
  | _, .int b, _, _, h => by cases h; exact .int b
  | _, .str b, _, _, h => by cases h; exact .str b
  | 0, .list ds, _, f, _ => absurd (show false = true from by simpa [flatD] using f) Bool.false_ne_true
  | n + 1, .list ds, _, f, h => by cases h with | lst h1 h2 => exact .lst (SqL.of h1) (dpAll_of n ds _ (by simpa [flatD] using f) h2)
  | 0, .tuple ds, _, f, _ => absurd (show false = true from by simpa [flatD] using f) Bool.false_ne_true
  | n + 1, .tuple ds, _, f, h => by cases h with | tup h1 h2 => exact .tup (SqT.of h1) (dpAll_of n ds _ (by simpa [flatD] using f) h2)
  | _, .dict _, _, f, _ => absurd (show false = true from by simpa [flatD] using f) Bool.false_ne_true
theorem dpAll_of {K : PySem.W.Frag} {H : Hp} : ∀ (n : Nat) (ds : List D) (vs : List V), flatAll n ds = true → RpA K H vs ds → DpAll K H vs ds
  | _, [], _, _, h => by cases h; exact .nil
  | n, d :: ds, _, f, h => by
    unfold flatAll at f
    rw [Bool.and_eq_true] at f
    cases h with
    | cons h1 h2 => exact .cons (dp_of n d _ f.1 h1) (dpAll_of n ds _ f.2 h2)
end
mutual
theorem flat_shape : ∀ (n : Nat) (d : D), flatD n d = true → d.canLay0 = true ∧ d.depth ≤ n
  | _, .none, _ => ⟨by simp [PyData.canLay0], by simp [PyData.depth]⟩
  | _, .bool b, _ => ⟨by simp [PyData.canLay0], by simp [PyData.depth]⟩
  | _, .int b, _ => ⟨by simp [PyData.canLay0], by simp [PyData.depth]⟩
  | _, .str b, h => ⟨by unfold flatD at h; unfold PyData.canLay0 PyData.strOk; exact h, by simp [PyData.depth]⟩
  | 0, .list ds, f => absurd (show false = true from by simpa [flatD] using f) Bool.false_ne_true
  | n + 1, .list ds, f => by
    obtain ⟨a, b⟩ := flat_shapes n ds (by simpa [flatD] using f)
    exact ⟨by simpa [PyData.canLay0] using a, by simpa [PyData.depth] using b⟩
  | 0, .tuple ds, f => absurd (show false = true from by simpa [flatD] using f) Bool.false_ne_true
  | n + 1, .tuple ds, f => by
    obtain ⟨a, b⟩ := flat_shapes n ds (by simpa [flatD] using f)
    exact ⟨by simpa [PyData.canLay0] using a, by simpa [PyData.depth] using b⟩
  | _, .dict _, f => absurd (show false = true from by simpa [flatD] using f) Bool.false_ne_true
theorem flat_shapes : ∀ (n : Nat) (ds : List D), flatAll n ds = true → PyData.canLayAll0 ds = true ∧ PyData.depthAll ds ≤ n
  | _, [], _ => ⟨by simp [PyData.canLayAll0], by simp [PyData.depthAll]⟩
  | n, d :: ds, f => by
    unfold flatAll at f
    rw [Bool.and_eq_true] at f
    obtain ⟨a, b⟩ := flat_shape n d f.1
    obtain ⟨a2, b2⟩ := flat_shapes n ds f.2
    refine ⟨by simp [PyData.canLayAll0, a, a2], ?_⟩
    simp only [PyData.depthAll]
    omega
end
section
variable {X : Cx}
def rEqW (K : PySem.W.Frag) (neg : Bool) : R2 := fun x y H Q => ∃ d e b, Rp K H x d ∧ Rp K H y e ∧ eqD d e = .ok b ∧ Q (.bl (if neg then !b else b)) H
theorem shaped_of {n : Nat} {d : D} (h : flatD n d = true) (hn : n ≤ 64) : SeqAt.shaped d = true := by
  obtain ⟨a, b⟩ := flat_shape n d h
  unfold SeqAt.shaped
  rw [a, Bool.true_and, decide_eq_true (by omega)]
theorem op_eqW (hu : X.A.units + 64 < cLine) : OpR X (compareOp .Eq) (rEqW X.K false) := by
  intro pins s σ H x y v u Q I rx ry h
  obtain ⟨d, e, b, h1, h2, he, q⟩ := h
  unfold eqD at he
  split at he
  · rename_i hc
    simp only [Bool.and_eq_true, Bool.not_eq_true'] at hc
    cases he
    exact (rcAt_same I d e 19 X.A x y v u (by omega) hc.1.1 hc.1.2 hc.2 h1 h2 rx ry).1 _ _ _ _ ⟨.bl true, H, I, rfl, q⟩
  · split at he
    · rename_i hc
      simp only [Bool.and_eq_true] at hc
      cases he
      exact op_eqD hu pins s σ H x y v u Q I rx ry ⟨d, e, dp_of 20 d x hc.1 h1, dp_of 20 e y hc.2 h2, shaped_of hc.1 (by decide), shaped_of hc.2 (by decide), q⟩
    · cases he
theorem op_neW (hu : X.A.units + 64 < cLine) : OpR X (compareOp .NotEq) (rEqW X.K true) := by
  intro pins s σ H x y v u Q I rx ry h
  obtain ⟨d, e, b, h1, h2, he, q⟩ := h
  unfold eqD at he
  split at he
  · rename_i hc
    simp only [Bool.and_eq_true, Bool.not_eq_true'] at hc
    cases he
    exact (rcAt_same I d e 19 X.A x y v u (by omega) hc.1.1 hc.1.2 hc.2 h1 h2 rx ry).2 _ _ _ _ ⟨.bl false, H, I, rfl, q⟩
  · split at he
    · rename_i hc
      simp only [Bool.and_eq_true] at hc
      cases he
      exact op_neD hu pins s σ H x y v u Q I rx ry ⟨d, e, dp_of 20 d x hc.1 h1, dp_of 20 e y hc.2 h2, shaped_of hc.1 (by decide), shaped_of hc.2 (by decide), q⟩
    · cases he
theorem os_eq (hu : X.A.units + 64 < cLine) : OpS X (compareOp .Eq) opEq := by
  refine ops_of _ (op_eqW hu) fun W σ H Hs x y d1 d2 Q s hx hy hp => ?_
  unfold opEq at hp
  cases e : eqD d1 d2 with
  | ok b => rw [e] at hp; exact ⟨d1, d2, b, hx.rp s, hy.rp s, e, hp _ H Hs (Grow.refl s) (.bl _)⟩
  | err c => unfold eqD at e; split at e <;> first | cases e | (split at e <;> cases e)
  | stk => rw [e] at hp; exact (show False from hp).elim
theorem os_ne (hu : X.A.units + 64 < cLine) : OpS X (compareOp .NotEq) opNe := by
  refine ops_of _ (op_neW hu) fun W σ H Hs x y d1 d2 Q s hx hy hp => ?_
  unfold opNe at hp
  cases e : eqD d1 d2 with
  | ok b => rw [e] at hp; exact ⟨d1, d2, b, hx.rp s, hy.rp s, e, hp _ H Hs (Grow.refl s) (.bl _)⟩
  | err c => unfold eqD at e; split at e <;> first | cases e | (split at e <;> cases e)
  | stk => rw [e] at hp; exact (show False from hp).elim
end
end PL

namespace PL
open PySem PySem.Spec PyProof.Rows L2

section
variable {X : Cx} {W : WX} {a b c : Expr} {f g h : EF} {pos p2 : Pos} {es : List Expr} {fs gs : LF}
/-! ### xs[i], xs[lo:hi], xs[::-1] -/
theorem atI_rp {K : PySem.W.Frag} {H : Hp} {vs : List V} {ds : List D} {i : Int} {d : D} (r : RpA K H vs ds) (h : PL.atI ds i = some d) : ∃ v, L2.atI vs i = some v ∧ Rp K H v d := by
  unfold PL.atI at h
  unfold L2.atI
  cases e : PL.ixN ds.length i with
  | none => rw [e] at h; cases h
  | some j =>
    rw [e] at h
    obtain ⟨v, h1, h2⟩ := r.get (show ds[j]? = some d from h)
    refine ⟨v, ?_, h2⟩
    have e' : L2.ixN vs.length i = some j := by rw [r.length]; exact e
    rw [e']
    exact h1
theorem toR_ok {A : Type} {o : Option A} {σ : St} {H Hs : Hp} {B : Type} {Rep : Hp → Hp → Hp → B → A → Prop} {Q : B → Hp → Prop} (h : Post X W σ H Hs Rep (toR o) Q) : ∃ d, o = some d ∧ Post X W σ H Hs Rep (.ok d) Q := by
  cases o with
  | none => exact (show False from h).elim
  | some d => exact ⟨d, rfl, h⟩
theorem ix_post {σ : St} {H Hs : Hp} {x y : V} {d1 d2 : D} {Q : VK} (s : Same Hs H) (hx : Bo X.K H Hs x d1) (hy : Bo X.K H Hs y d2) (hp : Post X W σ H Hs (RepE X.K) (opIx d1 d2) Q) : rIx X.K x y H Q := by
  unfold opIx at hp
  split at hp
  · rename_i xs i
    obtain ⟨d, e, hp⟩ := toR_ok hp
    obtain ⟨p, vs, rfl, h1, r1⟩ := hx.list s
    obtain ⟨v, h2, h3⟩ := atI_rp r1 e
    exact .inl ⟨p, vs, i, v, rfl, hy.int, SqL.of h1, h2, hp v H Hs (Grow.refl s) h3⟩
  · rename_i xs i
    obtain ⟨d, e, hp⟩ := toR_ok hp
    obtain ⟨p, vs, rfl, h1, r1⟩ := hx.tuple s
    obtain ⟨v, h2, h3⟩ := atI_rp r1 e
    exact .inr (.inl ⟨p, vs, i, v, rfl, hy.int, SqT.of h1, h2, hp v H Hs (Grow.refl s) h3⟩)
  · rename_i z i
    split at hp
    · rename_i hz
      cases e : PL.atI z.cps.toList i with
      | none => rw [e] at hp; exact (show False from hp).elim
      | some c =>
        rw [e] at hp
        exact .inr (.inr ⟨z, i, c, hx.str, hy.int, hz, e, hp _ H Hs (Grow.refl s) (.str _)⟩)
    · exact (show False from hp).elim
  · rename_i xs i
    obtain ⟨d, e, hp⟩ := toR_ok hp
    obtain ⟨p, vs, rfl, h1, r1⟩ := Bo.scr (xs := xs) hx s
    obtain ⟨v, h2, h3⟩ := atI_rp r1 e
    exact .inl ⟨p, vs, i, v, rfl, hy.int, h1, h2, hp v H Hs (Grow.refl s) h3⟩
  · exact (show False from hp).elim
theorem ppe_ix (ha : PPB X W a f) (hb : PPE X W b g) (hs : PlainIx b) : PPE X W (.Subscript a b pos) (e2 opIx f g) := by
  obtain ⟨ta, pa, ha⟩ := ha.out
  obtain ⟨tb, pb, hb⟩ := hb.out
  refine ⟨_, pe_ix ix_seq pa pb hs, fun e σ H Hs Q s hp => ?_⟩
  refine ha e σ H Hs _ s (Post.bind hp anE fun d1 x H1 Hs1 _ g1 r1 hp1 => ?_)
  refine hb e σ H1 Hs1 _ (s.grow g1) (Post.bind hp1 anE fun d2 y H2 Hs2 _ g2 r2 hp2 => ?_)
  exact ix_post g2.sub (r1.up g2) (.inl r2) hp2
theorem ppo_none : PPO X W none oN := ⟨_, po_none, fun e σ H Hs Q s hp => hp _ H Hs (Grow.refl s.sub) rfl⟩
theorem ppo_some (ha : PPE X W a f) : PPO X W (some a) (oS f) := by
  obtain ⟨ta, pa, ha⟩ := ha.out
  refine ⟨_, po_some pa, fun e σ H Hs Q s hp => ?_⟩
  refine ha e σ H Hs _ s (Post.bind hp anE fun d1 x H1 Hs1 _ g1 r1 hp1 => ?_)
  cases d1 <;> first
    | exact (show False from hp1).elim
    | skip
  exact ⟨_, r1.int', hp1 _ H1 Hs1 (Grow.refl g1.sub) rfl⟩
theorem cut_rp {K : PySem.W.Frag} {H : Hp} {vs : List V} {ds : List D} {lo hi : Option Int} (r : RpA K H vs ds) : RpA K H (cutV vs lo hi) (cut ds lo hi) := by
  rw [cut_eq]
  unfold cutV
  rw [r.length]
  exact (r.drop _).take _
theorem sl_post {σ : St} {H Hs : Hp} {x : V} {d : D} {lo hi : Option Int} {Q : VK} (s : Same Hs H) (hx : Bo X.K H Hs x d) (hp : Post X W σ H Hs (RepE X.K) (opSl d lo hi) Q) :
    rSlL X.K x lo hi H Q ∨ rSlA X.K x lo hi H Q ∨ rSlS x lo hi H Q := by
  unfold opSl at hp
  split at hp
  · obtain ⟨p, vs, rfl, h1, r1⟩ := hx.list s
    exact .inl ⟨p, vs, rfl, SqL.of h1, fun l hl => hp _ _ _ (Grow.new s hl) (.lst upd_same ((cut_rp r1).up (Grow.new (o := .lst (cutV vs lo hi)) s hl).sh))⟩
  · rename_i xs
    obtain ⟨p, vs, rfl, h1, r1⟩ := hx.tuple s
    refine .inr (.inl ⟨p, vs, rfl, SqT.of h1, fun hw => ?_, fun _ l hl => hp _ _ _ (Grow.new s hl) (.tup upd_same ((cut_rp r1).up (Grow.new (o := .tup (cutV vs lo hi)) s hl).sh))⟩)
    have e : cut xs lo hi = xs := by
      rw [cut_eq, ← r1.length, hw.1, hw.2, List.drop_zero, Nat.sub_zero, r1.length, List.take_length]
    rw [e] at hp
    rcases hx with hx | ⟨_, _, _, _, z, _⟩
    · exact hp _ H Hs (Grow.refl s) hx
    · cases z
  · rename_i z
    split at hp
    · rename_i hz
      refine .inr (.inr ⟨z, hx.str, hz, ?_⟩)
      have e : cutS z lo hi = ⟨(cut z.cps.toList lo hi).toArray⟩ := by
        unfold cutS
        rw [cut_eq]
        rfl
      rw [e]
      exact hp _ H Hs (Grow.refl s) (.str _)
    · exact (show False from hp).elim
  · rename_i xs
    obtain ⟨p, vs, rfl, h1, r1⟩ := Bo.scr (xs := xs) hx s
    exact .inl ⟨p, vs, rfl, h1, fun l hl => hp _ _ _ (Grow.new s hl) (.lst upd_same ((cut_rp r1).up (Grow.new (o := .lst (cutV vs lo hi)) s hl).sh))⟩
  · exact (show False from hp).elim
theorem ppe_sl {lo hi : Option Expr} {l u : Env → R (Option Int)} (ha : PPB X W a f) (hl : PPO X W lo l) (hh : PPO X W hi u) : PPE X W (.Subscript a (.Slice lo hi none p2) pos) (eSl f l u) := by
  obtain ⟨ta, pa, ha⟩ := ha.out
  obtain ⟨tl, pl, hl⟩ := hl.out
  obtain ⟨th, ph, hh⟩ := hh.out
  refine ⟨_, pe_slice (sl_list.or (sl_tupA.or sl_str)) pa pl ph, fun e σ H Hs Q s hp => ?_⟩
  refine ha e σ H Hs _ s (Post.bind hp anE fun d1 x H1 Hs1 _ g1 r1 hp1 => ?_)
  refine hl e σ H1 Hs1 _ (s.grow g1) (Post.bind hp1 anE fun d2 y H2 Hs2 _ g2 r2 hp2 => ?_)
  subst r2
  refine hh e σ H2 Hs2 _ (s.grow (g1.trans g2)) (Post.bind hp2 anE fun d3 z H3 Hs3 _ g3 r3 hp3 => ?_)
  subst r3
  exact sl_post g3.sub ((r1.up g2).up g3) hp3
theorem ppe_rev {k : Nat} {p1 p3 p4 : Pos} (ha : PPB X W a f) : PPE X W (.Subscript a (.Slice none none (some (.UnaryOp .USub (.Constant (.int 1) k p1) p3)) p4) pos) (e1 opRev f) := by
  obtain ⟨ta, pa, ha⟩ := ha.out
  refine ⟨_, pe_revL pa, fun e σ H Hs Q s hp => ?_⟩
  refine ha e σ H Hs _ s (Post.bind hp anE fun d1 x H1 Hs1 _ g1 r1 hp1 => ?_)
  cases d1 <;> first
    | exact (show False from hp1).elim
    | skip
  obtain ⟨p, vs, rfl, h1, r1⟩ := r1.list g1.sub
  exact ⟨p, vs, rfl, SqL.of h1, fun l hl => hp1 _ _ _ (Grow.new g1.sub hl) (.lst upd_same (r1.reverse.up (Grow.new (o := .lst vs.reverse) g1.sub hl).sh))⟩

/-! ### arguments and displays -/
theorem ppa_nil : PPA X W [] aN := ⟨⟨_, pa_nil, fun e σ H Hs Q s hp => hp _ H Hs (Grow.refl s.sub) .nil⟩, fun e ds h => by cases h; rfl⟩
theorem ppa_cons (ha : PPE X W a f) (hr : PPA X W es fs) (hs : starEach (a :: es) X.env = (false, eval a X.env) :: starEach es X.env := by rfl) : PPA X W (a :: es) (aC f fs) := by
  obtain ⟨ta, pa, ha⟩ := ha.out
  obtain ⟨⟨tr, pr, hr⟩, hl⟩ := hr
  refine ⟨⟨_, pa_cons pa pr hs, fun e σ H Hs Q s hp => ?_⟩, fun e ds h => ?_⟩
  · refine ha e σ H Hs _ s (Post.bind hp anE fun d1 x H1 Hs1 _ g1 r1 hp1 => ?_)
    refine hr e σ H1 Hs1 _ (s.grow g1) (Post.bind hp1 anE fun d2 y H2 Hs2 _ g2 r2 hp2 => ?_)
    exact hp2 _ H2 Hs2 (Grow.refl g2.sub) (.cons (r1.up g2.sh) r2)
  · unfold aC at h
    cases e1 : f e with
    | ok d =>
      rw [e1] at h
      cases e2 : fs e with
      | ok ds' =>
        rw [R.bind_ok, e2] at h
        cases h
        rw [List.length_cons, List.length_cons, hl e ds' e2]
      | err c => rw [R.bind_ok, e2] at h; cases h
      | stk => rw [R.bind_ok, e2] at h; cases h
    | err c => rw [e1] at h; cases h
    | stk => rw [e1] at h; cases h
theorem ppba_nil : PPBA X W [] aN := ⟨_, pa_nil, fun e σ H Hs Q s hp => hp _ H Hs (Grow.refl s.sub) .nil⟩
theorem ppba_cons (ha : PPB X W a f) (hr : PPBA X W es fs) (hs : starEach (a :: es) X.env = (false, eval a X.env) :: starEach es X.env := by rfl) : PPBA X W (a :: es) (aC f fs) := by
  obtain ⟨ta, pa, ha⟩ := ha.out
  obtain ⟨tr, pr, hr⟩ := hr.out
  refine ⟨_, pa_cons pa pr hs, fun e σ H Hs Q s hp => ?_⟩
  refine ha e σ H Hs _ s (Post.bind hp anE fun d1 x H1 Hs1 _ g1 r1 hp1 => ?_)
  refine hr e σ H1 Hs1 _ (s.grow g1) (Post.bind hp1 anE fun d2 y H2 Hs2 _ g2 r2 hp2 => ?_)
  exact hp2 _ H2 Hs2 (Grow.refl g2.sub) (.cons (r1.up g2) r2)
theorem ppe_list (ha : PPA X W es fs) (hz : es.length ≤ sizeLine := by decide) : PPE X W (.List es pos) (eL fs) := by
  obtain ⟨⟨ta, pa, ha⟩, hl⟩ := ha
  refine ⟨_, pe_lst pa, fun e σ H Hs Q s hp => ?_⟩
  refine ha e σ H Hs _ s (Post.bind hp anE fun d1 x H1 Hs1 he g1 r1 hp1 => ?_)
  exact ⟨by rw [r1.length, hl _ _ he]; exact hz, fun l nl => hp1 _ _ _ (Grow.new g1.sub nl) (.lst upd_same (r1.up (Grow.new (o := .lst x) g1.sub nl).sh))⟩
theorem ppf_list (ha : PPA X W es fs) (hz : es.length ≤ sizeLine := by decide) : PPF X W (.List es pos) fs := by
  obtain ⟨⟨ta, pa, ha⟩, hl⟩ := ha
  refine ⟨_, pe_lst pa, fun e σ H Hs Q s hp => ?_⟩
  have hp' : Post X W σ H Hs (RepF X.K) ((fs e).bind .ok) Q := by
    cases e1 : fs e with
    | ok a => rw [e1] at hp; exact hp
    | err c => rw [e1] at hp; exact hp
    | stk => rw [e1] at hp; exact hp
  refine ha e σ H Hs _ s (Post.bind (Rep2 := RepF X.K) hp' (fun H1 s1 H' Hs' v xs ⟨p, vs, h1, h2, h3⟩ => ⟨p, vs, h1, s1.free h2, h3⟩) fun d1 x H1 Hs1 he g1 r1 hp1 => ?_)
  refine ⟨by rw [r1.length, hl _ _ he]; exact hz, fun l nl => hp1 _ _ _ (Grow.gar g1.sub nl) ⟨l, x, rfl, nl, upd_same, g1.sub.free nl, r1⟩⟩
theorem ppe_tup {x1} (ha : PPA X W es fs) (hz : es.length ≤ sizeLine := by decide) : PPE X W (.Tuple es x1 pos) (eT fs) := by
  obtain ⟨⟨ta, pa, ha⟩, hl⟩ := ha
  refine ⟨_, pe_tup pa, fun e σ H Hs Q s hp => ?_⟩
  refine ha e σ H Hs _ s (Post.bind hp anE fun d1 x H1 Hs1 he g1 r1 hp1 => ?_)
  exact ⟨by rw [r1.length, hl _ _ he]; exact hz, fun l nl => hp1 _ _ _ (Grow.new g1.sub nl) (.tup upd_same (r1.up (Grow.new (o := .tup x) g1.sub nl).sh))⟩
theorem ppe_dic : PPE X W (.Dict [] [] pos) (eK (.dict [])) :=
  ⟨_, pe_dnewK, fun e σ H Hs Q s hp d hd => hp _ _ _ (Grow.new s.sub hd) (.dic upd_same)⟩

/-! ### calls -/
variable {x : Str} {p : Pos} {id T : String} {m : List D → R D}
theorem ppe_callB (hc : CaS X (.builtin id) m) (hm : X.mg x = none) (hv : bootBuiltins x = some (.builtin id)) (ha : PPBA X W (a :: es) fs) (hg : Gl X x := by rfl) (hn : x ≠ "__name__" := by decide) (hdb : (x == ("__debug__" : Str)) = false := by decide)
    (he : starEach (a :: es) X.env = (false, eval a X.env) :: starEach es X.env := by rfl) (hpl : (backTo pos (starEach es X.env)).any (·.1) = false := by rfl) : PPE X W (.Call (.Name x p) (a :: es) [] pos) (eC m fs) := by
  obtain ⟨ta, pa, ha⟩ := ha.out
  obtain ⟨r, hc, hr⟩ := hc
  refine ⟨_, pe_callB hc hg hm hv pa hn hdb he hpl, fun e σ H Hs Q s hp => ?_⟩
  refine ha e σ H Hs _ s (Post.bind hp anE fun d1 x H1 Hs1 _ g1 r1 hp1 => ?_)
  exact hr W σ H1 Hs1 x d1 Q g1.sub r1 hp1
theorem ppe_callTy (hc : CaS X (.type T) m) (hm : X.mg x = none) (hv : bootBuiltins x = some (.type T)) (ha : PPBA X W (a :: es) fs) (hg : Gl X x := by rfl) (hn : x ≠ "__name__" := by decide) (hdb : (x == ("__debug__" : Str)) = false := by decide)
    (he : starEach (a :: es) X.env = (false, eval a X.env) :: starEach es X.env := by rfl) (hpl : (backTo pos (starEach es X.env)).any (·.1) = false := by rfl) : PPE X W (.Call (.Name x p) (a :: es) [] pos) (eC m fs) := by
  obtain ⟨ta, pa, ha⟩ := ha.out
  obtain ⟨r, hc, hr⟩ := hc
  refine ⟨_, pe_callTy hc hg hm hv pa hn hdb he hpl, fun e σ H Hs Q s hp => ?_⟩
  refine ha e σ H Hs _ s (Post.bind hp anE fun d1 x H1 Hs1 _ g1 r1 hp1 => ?_)
  exact hr W σ H1 Hs1 x d1 Q g1.sub r1 hp1
theorem boA1 {K : PySem.W.Frag} {H Hs : Hp} {xs : List V} {d : D} (h : BoA K H Hs xs [d]) : ∃ v, xs = [v] ∧ Bo K H Hs v d := by
  cases h with | cons h1 h2 => cases h2; exact ⟨_, rfl, h1⟩
theorem boA2 {K : PySem.W.Frag} {H Hs : Hp} {xs : List V} {d e : D} (h : BoA K H Hs xs [d, e]) : ∃ v w, xs = [v, w] ∧ Bo K H Hs v d ∧ Bo K H Hs w e := by
  cases h with | cons h1 h2 => cases h2 with | cons h3 h4 => cases h4; exact ⟨_, _, rfl, h1, h3⟩
theorem cs_len : CaS X (.builtin "len") bLen := by
  refine ⟨_, call_len, fun W σ H Hs xs ds Q s hx hp => ?_⟩
  unfold bLen at hp
  split at hp
  · obtain ⟨v, rfl, hv⟩ := boA1 hx
    obtain ⟨p, vs, rfl, h1, r1⟩ := hv.list s
    exact ⟨_, vs.length, rfl, .inl ⟨vs, SqL.of h1, rfl⟩, by rw [r1.length]; exact hp _ H Hs (Grow.refl s) (.int _)⟩
  · obtain ⟨v, rfl, hv⟩ := boA1 hx
    obtain ⟨p, vs, rfl, h1, r1⟩ := hv.tuple s
    exact ⟨_, vs.length, rfl, .inr ⟨vs, SqT.of h1, rfl⟩, by rw [r1.length]; exact hp _ H Hs (Grow.refl s) (.int _)⟩
  · rename_i z
    split at hp
    · rename_i hz
      obtain ⟨v, rfl, hv⟩ := boA1 hx
      have e := hv.str
      subst e
      exact ⟨_, z.length, rfl, ⟨hz, rfl⟩, hp _ H Hs (Grow.refl s) (.int _)⟩
    · exact (show False from hp).elim
  · rename_i ys
    obtain ⟨v, rfl, hv⟩ := boA1 hx
    obtain ⟨p, vs, rfl, h1, r1⟩ := Bo.scr (xs := ys) hv s
    exact ⟨_, vs.length, rfl, .inl ⟨vs, h1, rfl⟩, by rw [r1.length]; exact hp _ H Hs (Grow.refl s) (.int _)⟩
  · exact (show False from hp).elim
theorem cs_int : CaS X (.type "int") bInt := by
  refine ⟨_, call_int1, fun W σ H Hs xs ds Q s hx hp => ?_⟩
  unfold bInt at hp
  split at hp
  · obtain ⟨v, rfl, hv⟩ := boA1 hx
    exact .inl ⟨_, by rw [hv.int], hp _ H Hs (Grow.refl s) (.int _)⟩
  · obtain ⟨v, rfl, hv⟩ := boA1 hx
    exact .inr ⟨_, by rw [hv.bool], hp _ H Hs (Grow.refl s) (.int _)⟩
  · exact (show False from hp).elim
theorem cs_abs : CaS X (.builtin "abs") bAbs := by
  refine ⟨_, call_abs, fun W σ H Hs xs ds Q s hx hp => ?_⟩
  unfold bAbs at hp
  split at hp
  · obtain ⟨v, rfl, hv⟩ := boA1 hx
    exact ⟨_, by rw [hv.int], hp _ H Hs (Grow.refl s) (.int _)⟩
  · exact (show False from hp).elim
theorem cs_max2 (hc : X.calm = true) : CaS X (.builtin "max") bMax2 := by
  refine ⟨_, call_max2 hc, fun W σ H Hs xs ds Q s hx hp => ?_⟩
  unfold bMax2 at hp
  split at hp
  · obtain ⟨v, w, rfl, hv, hw⟩ := boA2 hx
    exact ⟨_, _, by rw [hv.int, hw.int], hp _ H Hs (Grow.refl s) (.int _)⟩
  · exact (show False from hp).elim
theorem cs_min2 (hc : X.calm = true) : CaS X (.builtin "min") bMin2 := by
  refine ⟨_, call_min2 hc, fun W σ H Hs xs ds Q s hx hp => ?_⟩
  unfold bMin2 at hp
  split at hp
  · obtain ⟨v, w, rfl, hv, hw⟩ := boA2 hx
    exact ⟨_, _, by rw [hv.int, hw.int], hp _ H Hs (Grow.refl s) (.int _)⟩
  · exact (show False from hp).elim
theorem asIs_eq : ∀ {ds : List D} {ns : List Int}, asIs ds = .ok ns → ds = ns.map .int
  | [], ns, h => by cases h; rfl
  | .int i :: r, ns, h => by
    unfold asIs at h
    cases e : asIs r with
    | ok is => rw [e] at h; cases h; rw [asIs_eq e]; rfl
    | err c => rw [e] at h; cases h
    | stk => rw [e] at h; cases h
  | .none :: _, _, h => nomatch h
  | .bool _ :: _, _, h => nomatch h
  | .str _ :: _, _, h => nomatch h
  | .list _ :: _, _, h => nomatch h
  | .tuple _ :: _, _, h => nomatch h
  | .dict _ :: _, _, h => nomatch h
theorem asBs_eq : ∀ {ds : List D} {ns : List Bool}, asBs ds = .ok ns → ds = ns.map .bool
  | [], ns, h => by cases h; rfl
  | .bool i :: r, ns, h => by
    unfold asBs at h
    cases e : asBs r with
    | ok is => rw [e] at h; cases h; rw [asBs_eq e]; rfl
    | err c => rw [e] at h; cases h
    | stk => rw [e] at h; cases h
  | .none :: _, _, h => nomatch h
  | .int _ :: _, _, h => nomatch h
  | .str _ :: _, _, h => nomatch h
  | .list _ :: _, _, h => nomatch h
  | .tuple _ :: _, _, h => nomatch h
  | .dict _ :: _, _, h => nomatch h
theorem rp_ints {K : PySem.W.Frag} {H : Hp} : ∀ {ns : List Int} {vs : List V}, RpA K H vs (ns.map .int) → vs = ns.map V.int
  | [], _, h => by cases h; rfl
  | _ :: _, _, h => by cases h with | cons h1 h2 => rw [h1.int', rp_ints h2]; rfl
theorem rp_bools {K : PySem.W.Frag} {H : Hp} : ∀ {ns : List Bool} {vs : List V}, RpA K H vs (ns.map .bool) → vs = ns.map V.bl
  | [], _, h => by cases h; rfl
  | _ :: _, _, h => by cases h with | cons h1 h2 => rw [h1.bool', rp_bools h2]; rfl
theorem ints_post {σ : St} {H Hs : Hp} {ds : List D} {A B : Type} {Rep : Hp → Hp → Hp → B → A → Prop} {Q : B → Hp → Prop} {k : List Int → R A} (hp : Post X W σ H Hs Rep ((asIs ds).bind k) Q) : ∃ ns, ds = ns.map .int ∧ Post X W σ H Hs Rep (k ns) Q := by
  have no : ∀ (l : List D) (c : Str), asIs l ≠ .err c := fun l => by
    induction l with
    | nil => intro c h; cases h
    | cons d r ih =>
      intro c h
      cases d <;> first | (cases h; done) | skip
      unfold asIs at h
      cases e : asIs r with
      | ok is => rw [e] at h; cases h
      | err c' => exact ih c' e
      | stk => rw [e] at h; cases h
  cases e : asIs ds with
  | ok ns => rw [e] at hp; exact ⟨ns, asIs_eq e, hp⟩
  | err c => exact absurd e (no ds c)
  | stk => rw [e] at hp; exact (show False from hp).elim
theorem bools_post {σ : St} {H Hs : Hp} {ds : List D} {A B : Type} {Rep : Hp → Hp → Hp → B → A → Prop} {Q : B → Hp → Prop} {k : List Bool → R A} (hp : Post X W σ H Hs Rep ((asBs ds).bind k) Q) : ∃ ns, ds = ns.map .bool ∧ Post X W σ H Hs Rep (k ns) Q := by
  have no : ∀ (l : List D) (c : Str), asBs l ≠ .err c := fun l => by
    induction l with
    | nil => intro c h; cases h
    | cons d r ih =>
      intro c h
      cases d <;> first | (cases h; done) | skip
      unfold asBs at h
      cases e : asBs r with
      | ok is => rw [e] at h; cases h
      | err c' => exact ih c' e
      | stk => rw [e] at h; cases h
  cases e : asBs ds with
  | ok ns => rw [e] at hp; exact ⟨ns, asBs_eq e, hp⟩
  | err c => exact absurd e (no ds c)
  | stk => rw [e] at hp; exact (show False from hp).elim
theorem cs_sum (hc : X.calm = true) : CaS X (.builtin "sum") bSum := by
  refine ⟨_, cr_sum hc, fun W σ H Hs xs ds Q s hx hp => ?_⟩
  unfold bSum at hp
  split at hp
  · obtain ⟨v, rfl, hv⟩ := boA1 hx
    obtain ⟨ns, rfl, hq⟩ := ints_post hp
    obtain ⟨p, vs, rfl, h1, r1⟩ := hv.list s
    have e := rp_ints r1
    subst e
    exact ⟨p, ns, rfl, SqL.of h1, hq _ H Hs (Grow.refl s) (.int _)⟩
  · exact (show False from hp).elim
theorem cs_all (hc : X.calm = true) : CaS X (.builtin "all") bAll := by
  refine ⟨_, cr_all hc, fun W σ H Hs xs ds Q s hx hp => ?_⟩
  unfold bAll at hp
  split at hp
  · obtain ⟨v, rfl, hv⟩ := boA1 hx
    obtain ⟨ns, rfl, hq⟩ := bools_post hp
    obtain ⟨p, vs, rfl, h1, r1⟩ := hv.list s
    have e := rp_bools r1
    subst e
    exact ⟨p, ns, rfl, SqL.of h1, hq _ H Hs (Grow.refl s) (.bl _)⟩
  · exact (show False from hp).elim
theorem foldl_max : ∀ (r : List Int) (x : Int), (r.foldl (fun a b => if b > a then b else a) x = x ∨ r.foldl (fun a b => if b > a then b else a) x ∈ r) ∧ x ≤ r.foldl (fun a b => if b > a then b else a) x ∧ ∀ y ∈ r, y ≤ r.foldl (fun a b => if b > a then b else a) x
  | [], x => ⟨.inl rfl, Int.le_refl _, fun y h => nomatch h⟩
  | z :: r, x => by
    obtain ⟨h1, h2, h3⟩ := foldl_max r (if z > x then z else x)
    rw [List.foldl_cons]
    by_cases hz : z > x
    · rw [if_pos hz] at h1 h2 h3 ⊢
      refine ⟨.inr ?_, by omega, fun y hy => ?_⟩
      · rcases h1 with h1 | h1
        · rw [h1]; exact List.mem_cons_self
        · exact List.mem_cons_of_mem _ h1
      · rcases List.mem_cons.mp hy with e | hy
        · rw [e]; exact h2
        · exact h3 y hy
    · rw [if_neg hz] at h1 h2 h3 ⊢
      refine ⟨?_, h2, fun y hy => ?_⟩
      · rcases h1 with h1 | h1
        · exact .inl h1
        · exact .inr (List.mem_cons_of_mem _ h1)
      · rcases List.mem_cons.mp hy with e | hy
        · rw [e]; omega
        · exact h3 y hy
theorem foldl_min : ∀ (r : List Int) (x : Int), (r.foldl (fun a b => if b < a then b else a) x = x ∨ r.foldl (fun a b => if b < a then b else a) x ∈ r) ∧ r.foldl (fun a b => if b < a then b else a) x ≤ x ∧ ∀ y ∈ r, r.foldl (fun a b => if b < a then b else a) x ≤ y
  | [], x => ⟨.inl rfl, Int.le_refl _, fun y h => nomatch h⟩
  | z :: r, x => by
    obtain ⟨h1, h2, h3⟩ := foldl_min r (if z < x then z else x)
    rw [List.foldl_cons]
    by_cases hz : z < x
    · rw [if_pos hz] at h1 h2 h3 ⊢
      refine ⟨.inr ?_, by omega, fun y hy => ?_⟩
      · rcases h1 with h1 | h1
        · rw [h1]; exact List.mem_cons_self
        · exact List.mem_cons_of_mem _ h1
      · rcases List.mem_cons.mp hy with e | hy
        · rw [e]; exact h2
        · exact h3 y hy
    · rw [if_neg hz] at h1 h2 h3 ⊢
      refine ⟨?_, h2, fun y hy => ?_⟩
      · rcases h1 with h1 | h1
        · exact .inl h1
        · exact .inr (List.mem_cons_of_mem _ h1)
      · rcases List.mem_cons.mp hy with e | hy
        · rw [e]; omega
        · exact h3 y hy
theorem maxL_ok {ns : List Int} {m : Int} (h : maxL ns = some m) : 0 < ns.length ∧ m ∈ ns ∧ ∀ y ∈ ns, y ≤ m := by
  cases ns with
  | nil => cases h
  | cons x r =>
    obtain ⟨h1, h2, h3⟩ := foldl_max r x
    have e : r.foldl (fun a b => if b > a then b else a) x = m := Option.some.inj h
    rw [e] at h1 h2 h3
    refine ⟨Nat.succ_pos _, ?_, fun y hy => ?_⟩
    · rcases h1 with h1 | h1
      · rw [h1]; exact List.mem_cons_self
      · exact List.mem_cons_of_mem _ h1
    · rcases List.mem_cons.mp hy with q | hy
      · rw [q]; exact h2
      · exact h3 y hy
theorem minL_ok {ns : List Int} {m : Int} (h : minL ns = some m) : 0 < ns.length ∧ m ∈ ns ∧ ∀ y ∈ ns, m ≤ y := by
  cases ns with
  | nil => cases h
  | cons x r =>
    obtain ⟨h1, h2, h3⟩ := foldl_min r x
    have e : r.foldl (fun a b => if b < a then b else a) x = m := Option.some.inj h
    rw [e] at h1 h2 h3
    refine ⟨Nat.succ_pos _, ?_, fun y hy => ?_⟩
    · rcases h1 with h1 | h1
      · rw [h1]; exact List.mem_cons_self
      · exact List.mem_cons_of_mem _ h1
    · rcases List.mem_cons.mp hy with q | hy
      · rw [q]; exact h2
      · exact h3 y hy
theorem cs_maxL (hc : X.calm = true) : CaS X (.builtin "max") bMaxL := by
  refine ⟨_, cr_max hc, fun W σ H Hs xs ds Q s hx hp => ?_⟩
  unfold bMaxL at hp
  split at hp
  · obtain ⟨v, rfl, hv⟩ := boA1 hx
    obtain ⟨ns, rfl, hq⟩ := ints_post hp
    cases e : maxL ns with
    | none => rw [e] at hq; exact (show False from hq).elim
    | some m =>
      rw [e] at hq
      obtain ⟨p, vs, rfl, h1, r1⟩ := hv.list s
      have e2 := rp_ints r1
      subst e2
      obtain ⟨k1, k2, k3⟩ := maxL_ok e
      refine ⟨p, ns, rfl, SqL.of h1, k1, fun z hz hle => ?_⟩
      have ez : z = m := Int.le_antisymm (k3 z hz) (hle m k2)
      subst ez
      exact hq _ H Hs (Grow.refl s) (.int _)
  · exact (show False from hp).elim
theorem cs_minL (hc : X.calm = true) : CaS X (.builtin "min") bMinL := by
  refine ⟨_, cr_min hc, fun W σ H Hs xs ds Q s hx hp => ?_⟩
  unfold bMinL at hp
  split at hp
  · obtain ⟨v, rfl, hv⟩ := boA1 hx
    obtain ⟨ns, rfl, hq⟩ := ints_post hp
    cases e : minL ns with
    | none => rw [e] at hq; exact (show False from hq).elim
    | some m =>
      rw [e] at hq
      obtain ⟨p, vs, rfl, h1, r1⟩ := hv.list s
      have e2 := rp_ints r1
      subst e2
      obtain ⟨k1, k2, k3⟩ := minL_ok e
      refine ⟨p, ns, rfl, SqL.of h1, k1, fun z hz hle => ?_⟩
      have ez : z = m := Int.le_antisymm (hle m k2) (k3 z hz)
      subst ez
      exact hq _ H Hs (Grow.refl s) (.int _)
  · exact (show False from hp).elim
theorem cs_list : CaS X (.type "list") bList := by
  refine ⟨_, call_list_of, fun W σ H Hs xs ds Q s hx hp => ?_⟩
  unfold bList at hp
  split at hp
  · obtain ⟨v, rfl, hv⟩ := boA1 hx
    obtain ⟨p, vs, rfl, h1, r1⟩ := hv.list s
    exact ⟨p, vs, rfl, .inl (SqL.of h1), fun l hl => hp _ _ _ (Grow.new s hl) (.lst upd_same (r1.up (Grow.new (o := .lst vs) s hl).sh))⟩
  · obtain ⟨v, rfl, hv⟩ := boA1 hx
    obtain ⟨p, vs, rfl, h1, r1⟩ := hv.tuple s
    exact ⟨p, vs, rfl, .inr (SqT.of h1), fun l hl => hp _ _ _ (Grow.new s hl) (.lst upd_same (r1.up (Grow.new (o := .lst vs) s hl).sh))⟩
  · exact (show False from hp).elim
theorem cs_tup : CaS X (.type "tuple") bTup := by
  refine ⟨_, call_tuple_of, fun W σ H Hs xs ds Q s hx hp => ?_⟩
  unfold bTup at hp
  split at hp
  · obtain ⟨v, rfl, hv⟩ := boA1 hx
    obtain ⟨p, vs, rfl, h1, r1⟩ := hv.list s
    exact ⟨p, vs, rfl, .inl ⟨SqL.of h1, fun l hl => hp _ _ _ (Grow.new s hl) (.tup upd_same (r1.up (Grow.new (o := .tup vs) s hl).sh))⟩⟩
  · obtain ⟨v, rfl, hv⟩ := boA1 hx
    obtain ⟨p, vs, rfl, h1, r1⟩ := hv.tuple s
    refine ⟨p, vs, rfl, .inr ⟨SqT.of h1, ?_⟩⟩
    rcases hv with hx | ⟨_, _, _, _, z, _⟩
    · exact hp _ H Hs (Grow.refl s) hx
    · cases z
  · exact (show False from hp).elim
end
end PL

namespace PL
open PySem PySem.Spec PyProof.Rows L2

section
variable {X : Cx} {W : WX} {a b c : Expr} {f g h : EF} {pos p2 : Pos} {es : List Expr} {fs gs : LF} {x : Str} {p : Pos}
/-! ### isinstance with a built-in class -/
def kindN : D → String
  | .none => "NoneType" | .bool _ => "bool" | .int _ => "int" | .str _ => "str" | .list _ => "list" | .tuple _ => "tuple" | .dict _ => "dict"
def tyN : Ty → String | .int => "int" | .bool => "bool" | .str => "str" | .list => "list" | .tuple => "tuple"
theorem kit_tab : ∀ n ∈ ["NoneType", "bool", "int", "str", "list", "tuple", "dict"], ∀ t ∈ [Ty.int, .bool, .str, .list, .tuple], kitB n (tyN t) = some (match n, t with
    | "int", .int => true | "bool", .int => true | "bool", .bool => true | "str", .str => true | "list", .list => true | "tuple", .tuple => true | _, _ => false) := by decide +kernel
theorem kit_D (d : D) (t : Ty) : kitB (kindN d) (tyN t) = some (isTy t d) := by
  have h := kit_tab (kindN d) (by cases d <;> simp [kindN]) t (by cases t <;> simp)
  rw [h]
  cases d <;> cases t <;> rfl
theorem tyX_D {K : PySem.W.Frag} {H : Hp} {v : V} {d : D} (h : Rp K H v d) (hs : isScr d = false) : TyX K H v (.type (kindN d)) := by
  cases h with
  | non => exact .base .non
  | bl b => exact .base (.bl b)
  | int i => exact .base (.int i)
  | str s => exact .base (.str s)
  | lst h1 _ => exact .base (.lst h1)
  | tup h1 _ => exact .base (.tup h1)
  | dic h1 => exact .base (.dK h1)
  | scr _ _ => exact absurd (show true = false from hs) (by decide)
  | adr _ => exact absurd (show true = false from hs) (by decide)
theorem ppe_isi (t : Ty) {T : Str} {pT : Pos} (ha : PPB X W a f) (hm : X.mg x = none) (hv : bootBuiltins x = some (.builtin "isinstance")) (hmT : X.mg T = none) (hvT : bootBuiltins T = some (.type (tyN t)))
    (hg : Gl X x := by rfl) (hgT : Gl X T := by rfl) (hn : x ≠ "__name__" := by decide) (hdb : (x == ("__debug__" : Str)) = false := by decide) (hnT : T ≠ "__name__" := by decide) (hdbT : (T == ("__debug__" : Str)) = false := by decide)
    (he : starEach [a, .Name T pT] X.env = (false, eval a X.env) :: starEach [.Name T pT] X.env := by rfl) (he2 : starEach [.Name T pT] X.env = (false, eval (.Name T pT) X.env) :: starEach [] X.env := by rfl)
    (hpl : (backTo pos (starEach [.Name T pT] X.env)).any (·.1) = false := by rfl) : PPE X W (.Call (.Name x p) [a, .Name T pT] [] pos) (eC (bIsi t) (aC f aN)) := by
  obtain ⟨ta, pa, ha⟩ := ha.out
  refine ⟨_, pe_callB call_isi hg hm hv (pa_cons pa (pa_cons (pe_bltn hgT hmT hvT (v := .ty (tyN t)) rfl hnT hdbT) pa_nil he2) he) hn hdb he hpl, fun e σ H Hs Q s hp => ?_⟩
  have hp' : Post X W σ H Hs (RepE X.K) ((f e).bind fun d => bIsi t [d]) Q := by
    unfold eC aC aN at hp
    cases e1 : f e with
    | ok d => rw [e1] at hp; exact hp
    | err c => rw [e1] at hp; exact hp
    | stk => rw [e1] at hp; exact hp
  refine ha e σ H Hs _ s (Post.bind hp' anE fun d1 v H1 Hs1 _ g1 r1 hp1 => ?_)
  unfold bIsi at hp1
  dsimp only at hp1
  split at hp1
  · exact (show False from hp1).elim
  · rename_i hns
    have hns' : isScr d1 = false := by simpa using hns
    exact ⟨v, .ty (tyN t), .type (kindN d1), .type (tyN t), isTy t d1, rfl, .ty _, tyX_D (r1.rp g1.sub) hns', kit_ty (kit_D d1 t), hp1 _ H1 Hs1 (Grow.refl g1.sub) (.bl _)⟩

/-! ### a def's promise -/
/-- called with values that stand for data ds it answers m ds; all that stood stands; what comes back is apart from what the caller keeps for itself -/
def pureSp (K : PySem.W.Frag) (mg : Str → Option Value) (n : Nat) (m : List D → R D) : Sp := fun vs H Q E => ∃ Hs ds, Same Hs H ∧ RpA K Hs vs ds ∧ ds.length = n ∧
  (match m ds with
    | .ok d => ∀ v H' Hs', Grow H Hs H' Hs' → Rp K Hs' v d → Q v H'
    | .err c => ∀ H', Same H H' → E (clsV mg c) none H'
    | .stk => False)
abbrev FnP (P : Program) (w : World) (K : PySem.W.Frag) (mg : Str → Option Value) (base : Heap) (k : Nat) (f : Addr) (fd : FuncData) (ps : List Str) (m : List D → R D) : Prop :=
  FnOk P w K mg base (L2.CX P w) k f fd ps (pureSp K mg ps.length m)
variable {k : Nat} {fa : Addr} {fd : FuncData} {ps : List Str} {m : List D → R D}
theorem aC_len {e : Env} {ds : List D} (ha : PPA X W es fs) (h : fs e = .ok ds) : ds.length = es.length := ha.len e ds h
theorem ppe_call (F : FnP X.prog X.w X.K X.mg X.base k fa fd ps m) (hr : Room k X.A) (hm : X.mg x = some (.ref fa)) (hk : PySem.W.keepIn X.K (.ref fa) = true) (hb : Binds X.K fd ps []) (tk : Takes X W) (ha : PPA X W (a :: es) fs)
    (hl : (a :: es).length = ps.length := by rfl) (hg : Gl X x := by rfl) (hdb : (x == ("__debug__" : Str)) = false := by decide)
    (he : starEach (a :: es) X.env = (false, eval a X.env) :: starEach es X.env := by rfl) (hpl : (backTo pos (starEach es X.env)).any (·.1) = false := by rfl) : PPE X W (.Call (.Name x p) (a :: es) [] pos) (eC m fs) := by
  have hA := ha
  obtain ⟨⟨ta, pa, ha⟩, _⟩ := ha
  refine ⟨_, pe_callS F hr hg hm hk hb (passAt tk) pa hdb he hpl, fun e σ H Hs Q s hp => ?_⟩
  refine ha e σ H Hs _ s (Post.bind hp anE fun d1 vs H1 Hs1 hd g1 r1 hp1 => ?_)
  refine ⟨Hs1, d1, g1.sub, r1, by rw [hA.len e d1 hd]; exact hl, ?_⟩
  cases e2 : m d1 with
  | ok d => rw [e2] at hp1; exact hp1
  | err c => rw [e2] at hp1; exact hp1
  | stk => rw [e2] at hp1; exact hp1
/-- lists of our own may be looked at by the def that is called, where a scalar comes back -/
theorem ppe_callL (F : FnP X.prog X.w X.K X.mg X.base k fa fd ps m) (hr : Room k X.A) (hm : X.mg x = some (.ref fa)) (hk : PySem.W.keepIn X.K (.ref fa) = true) (hb : Binds X.K fd ps []) (tk : Takes X W) (ha : PPBA X W (a :: es) fs) (hn : ∀ e ds, fs e = .ok ds → ds.length = ps.length)
    (hg : Gl X x := by rfl) (hdb : (x == ("__debug__" : Str)) = false := by decide)
    (he : starEach (a :: es) X.env = (false, eval a X.env) :: starEach es X.env := by rfl) (hpl : (backTo pos (starEach es X.env)).any (·.1) = false := by rfl) : PPE X W (.Call (.Name x p) (a :: es) [] pos) (eCb m fs) := by
  obtain ⟨ta, pa, ha⟩ := ha.out
  refine ⟨_, pe_callS F hr hg hm hk hb (passAt tk) pa hdb he hpl, fun e σ H Hs Q s hp => ?_⟩
  refine ha e σ H Hs _ s (Post.bind hp anE fun d1 vs H1 Hs1 hd g1 r1 hp1 => ?_)
  refine ⟨H1, d1, Same.refl _, r1.rp g1.sub, hn e d1 hd, ?_⟩
  unfold scal at hp1
  cases e2 : m d1 with
  | ok d =>
    rw [e2] at hp1
    dsimp only [R.bind] at hp1
    intro v H' Hs' g rv
    cases e3 : isSc d with
    | true =>
      rw [e3, if_pos rfl] at hp1
      exact hp1 v H' Hs1 ⟨g.all, Same.refl _, g1.sub.trans g.all, fun _ _ _ n => n⟩ (rv.scal e3 Hs1)
    | false =>
      rw [e3, if_neg (by decide)] at hp1
      exact (show False from hp1).elim
  | err c => rw [e2] at hp1; exact hp1
  | stk => rw [e2] at hp1; exact hp1

/-! ### what is walked -/
/-- at each turn the i-th of xs comes, as long as Ht (a part of the heap) stands -/
def ItOk (K : PySem.W.Frag) (J : It) (Ht Hs : Hp) (xs : List D) : Prop :=
  ∀ i H2 Hs2, Same Ht H2 → Same Hs Hs2 → Same Hs2 H2 → (∀ (hi : i < xs.length), J.go i H2 ∧ ∀ x H3, J.yld i H2 x H3 → ∃ Hs3, Grow H2 Hs2 H3 Hs3 ∧ Rp K Hs3 x xs[i]) ∧ (i = xs.length → J.stop i H2)
def PostI (X : Cx) (W : WX) (sh : Bool) (σ : St) (H Hs : Hp) (r : R (List D)) (Rr : It → Hp → Prop) : Prop :=
  match r with
  | .ok xs => ∀ J H1 Hs1, Grow H Hs H1 Hs1 → ItOk X.K J (if sh then Hs1 else H1) Hs1 xs → Rr J H1
  | .err c => ∀ H', Same H H' → W (clsV X.mg c) none σ H'
  | .stk => False
/-- sh: what is walked stays for good (for a loop whose body stores) -/
structure PPI (X : Cx) (W : WX) (sh : Bool) (tg it : Expr) (f : LF) : Prop where
  out : ∃ t : TI, PI X tg it t ∧ ∀ e σ H Hs Rr, SR X.K e σ H Hs → PostI X W sh σ H Hs (f e) Rr → t σ H Rr
variable {tg : Expr}
theorem postI_bind {A : Type} {B : Type} {sh : Bool} {σ : St} {H Hs : Hp} {Rep1 : Hp → Hp → Hp → B → A → Prop} {r : R A} {k : A → R (List D)} {Rr : It → Hp → Prop} (hp : PostI X W sh σ H Hs (r.bind k) Rr)
    {T : B → Hp → Prop} (h : ∀ a b H1 Hs1, r = .ok a → Grow H Hs H1 Hs1 → Rep1 H H1 Hs1 b a → PostI X W sh σ H1 Hs1 (k a) Rr → T b H1) : Post X W σ H Hs Rep1 r T := by
  cases r with
  | ok a =>
    intro b H1 Hs1 g rp
    refine h a b H1 Hs1 rfl g rp ?_
    have hp' : PostI X W sh σ H Hs (k a) Rr := hp
    cases e : k a with
    | ok xs => rw [e] at hp'; exact fun J H2 Hs2 g2 io => hp' J H2 Hs2 (g.trans g2) io
    | err c => rw [e] at hp'; exact fun H' s' => hp' H' (g.all.trans s')
    | stk => rw [e] at hp'; exact hp'
  | err c => exact hp
  | stk => exact hp
theorem list_same {K : PySem.W.Frag} {H : Hp} {a : Addr} {xs ys : List V} (h : H a = some (.lst xs)) (h' : SqL K H a ys) (hk : ∀ o its n, K.lookup a = some o → o.data = .seq its n → H a = none) : ys = xs := by
  rcases h' with (h' | ⟨o, h'⟩) | ⟨o, its, n, h1, _, _, h4, _⟩
  · rw [h] at h'; cases h'; rfl
  · rw [h] at h'; cases h'
  · have z := hk o its n h1 h4; rw [h] at z; cases z
theorem itl_ok {K : PySem.W.Frag} {p : Addr} {vs : List V} {xs : List D} {Ht Hs : Hp} (h : Ht p = some (.lst vs)) (r : RpA K Hs vs xs) : ItOk K (Itl K p) Ht Hs xs := by
  intro i H2 Hs2 s1 s2 s3
  have h2 : SqL K H2 p vs := SqL.of (s1 _ _ h)
  refine ⟨fun hi => ?_, fun e => ⟨vs, h2, by rw [r.length, e]; exact Nat.le_refl _⟩⟩
  obtain ⟨v, hv, rv⟩ := r.get (List.getElem?_eq_getElem hi)
  refine ⟨⟨vs, v, h2, hv⟩, fun x H3 y => ?_⟩
  obtain ⟨rfl, y⟩ := y
  have e := y vs h2
  rw [hv] at e
  cases e
  exact ⟨Hs2, Grow.refl s3, rv.up s2⟩
theorem ppi_list (ha : PPB X W a f) : PPI X W false tg a (iL f) := by
  obtain ⟨ta, pa, ha⟩ := ha.out
  refine ⟨_, pi_list pa, fun e σ H Hs Rr s hp => ?_⟩
  refine ha e σ H Hs _ s (postI_bind hp fun d v H1 Hs1 _ g1 r1 hp1 => ?_)
  cases d <;> first
    | exact (show False from hp1).elim
    | skip
  obtain ⟨p, vs, rfl, h1, r1⟩ := r1.list g1.sub
  exact ⟨p, rfl, ⟨vs, SqL.of h1⟩, hp1 _ H1 Hs1 (Grow.refl g1.sub) (itl_ok h1 r1)⟩
theorem ppi_listS (ha : PPE X W a f) : PPI X W true tg a (iL f) := by
  obtain ⟨ta, pa, ha⟩ := ha.out
  refine ⟨_, pi_list pa, fun e σ H Hs Rr s hp => ?_⟩
  refine ha e σ H Hs _ s (postI_bind hp fun d v H1 Hs1 _ g1 r1 hp1 => ?_)
  cases d <;> first
    | exact (show False from hp1).elim
    | skip
  cases r1 with
  | lst h1 r1 => exact ⟨_, rfl, ⟨_, SqL.of (g1.sub _ _ h1)⟩, hp1 _ H1 Hs1 (Grow.refl g1.sub) (itl_ok h1 r1)⟩
theorem itt_ok {K : PySem.W.Frag} {p : Addr} {vs : List V} {xs : List D} {Ht Hs : Hp} (h : Ht p = some (.tup vs)) (r : RpA K Hs vs xs) : ItOk K (Itt K p) Ht Hs xs := by
  intro i H2 Hs2 s1 s2 s3
  have h2 : SqT K H2 p vs := SqT.of (s1 _ _ h)
  refine ⟨fun hi => ?_, fun e => ⟨vs, h2, by rw [r.length, e]; exact Nat.le_refl _⟩⟩
  obtain ⟨v, hv, rv⟩ := r.get (List.getElem?_eq_getElem hi)
  refine ⟨⟨vs, v, h2, hv⟩, fun x H3 y => ?_⟩
  obtain ⟨rfl, y⟩ := y
  have e := y vs h2
  rw [hv] at e
  cases e
  exact ⟨Hs2, Grow.refl s3, rv.up s2⟩
theorem ppi_tup {sh : Bool} (ha : PPE X W a f) : PPI X W sh tg a (iT f) := by
  obtain ⟨ta, pa, ha⟩ := ha.out
  refine ⟨_, pi_tup pa, fun e σ H Hs Rr s hp => ?_⟩
  refine ha e σ H Hs _ s (postI_bind hp fun d v H1 Hs1 _ g1 r1 hp1 => ?_)
  cases d <;> first
    | exact (show False from hp1).elim
    | skip
  cases r1 with
  | tup h1 r1 =>
    refine ⟨_, rfl, ⟨_, SqT.of (g1.sub _ _ h1)⟩, hp1 _ H1 Hs1 (Grow.refl g1.sub) (itt_ok ?_ r1)⟩
    cases sh
    · exact g1.sub _ _ h1
    · exact h1
theorem ppi_str {sh : Bool} (ha : PPE X W a f) : PPI X W sh tg a (iS f) := by
  obtain ⟨ta, pa, ha⟩ := ha.out
  refine ⟨_, pi_str pa, fun e σ H Hs Rr s hp => ?_⟩
  refine ha e σ H Hs _ s (postI_bind hp fun d v H1 Hs1 _ g1 r1 hp1 => ?_)
  obtain ⟨z, rfl⟩ : ∃ z, d = .str z := by
    cases d <;> first
      | exact (show False from hp1).elim
      | exact ⟨_, rfl⟩
  cases r1
  refine ⟨z, rfl, hp1 _ H1 Hs1 (Grow.refl g1.sub) fun i H2 Hs2 s1 s2 s3 => ⟨fun hi => ?_, fun e => ?_⟩⟩
  · rw [List.length_map, Array.length_toList] at hi
    refine ⟨hi, fun x H3 y => ?_⟩
    obtain ⟨rfl, c, hc, rfl⟩ := y
    refine ⟨Hs2, Grow.refl s3, ?_⟩
    rw [List.getElem_map]
    have e : z.cps.toList[i]'(by rw [Array.length_toList]; exact hi) = c := by
      rw [Array.getElem_toList]
      rw [Array.getElem?_eq_getElem hi] at hc
      exact Option.some.inj hc
    rw [e]
    exact .str _
  · rw [e, List.length_map, Array.length_toList]
    exact Nat.le_refl _
theorem rng_len (lo hi : Int) : (rng lo hi).length = (hi - lo).toNat := by unfold rng; rw [List.length_map, List.length_range]
theorem itr_ok {K : PySem.W.Frag} {lo hi : Int} {Ht Hs : Hp} : ItOk K (Itr lo (hi - lo).toNat) Ht Hs (rng lo hi) := by
  intro i H2 Hs2 s1 s2 s3
  refine ⟨fun h => ?_, fun e => by rw [e, rng_len]; exact Nat.le_refl _⟩
  have h' := h
  rw [rng_len] at h'
  refine ⟨h', fun x H3 y => ?_⟩
  obtain ⟨rfl, rfl⟩ := y
  refine ⟨Hs2, Grow.refl s3, ?_⟩
  have e : (rng lo hi)[i] = .int (lo + (i : Int)) := by
    simp [rng]
  rw [e]
  exact .int _
theorem smI_ok {n : Int} (h : smI n = true) : -(2 ^ 62) ≤ n ∧ n < 2 ^ 62 := of_decide_eq_true h
theorem ppi_r1 {sh : Bool} (hm : X.mg "range" = none) (ha : PPE X W a f) (hg : Gl X "range" := by rfl) (hs : starEach [a] X.env = [(false, eval a X.env)] := by rfl) : PPI X W sh tg (.Call (.Name "range" p) [a] [] pos) (iR1 f) := by
  obtain ⟨ta, pa, ha⟩ := ha.out
  refine ⟨_, pi_range1 hg hm (pa_cons pa pa_nil hs) hs, fun e σ H Hs Rr s hp => ?_⟩
  refine ha e σ H Hs _ s (postI_bind hp fun d v H1 Hs1 _ g1 r1 hp1 => ?_)
  obtain ⟨n, rfl⟩ : ∃ z, d = .int z := by
    cases d <;> first
      | exact (show False from hp1).elim
      | exact ⟨_, rfl⟩
  cases r1
  have hp2 : PostI X W sh σ H1 Hs1 (if smI n then R.ok (rng 0 n) else .stk) Rr := hp1
  split at hp2
  · rename_i hn
    obtain ⟨h1, h2⟩ := smI_ok hn
    have z := itr_ok (K := X.K) (lo := 0) (hi := n) (Ht := if sh then Hs1 else H1) (Hs := Hs1)
    rw [Int.sub_zero] at z
    exact ⟨n, rfl, h1, h2, hp2 _ H1 Hs1 (Grow.refl g1.sub) z⟩
  · exact (show False from hp2).elim
theorem ppi_r2 {sh : Bool} (hm : X.mg "range" = none) (ha : PPE X W a f) (hb : PPE X W b g) (hg : Gl X "range" := by rfl) (hs : starEach [a, b] X.env = (false, eval a X.env) :: starEach [b] X.env := by rfl)
    (hs1 : starEach [a, b] X.env = [(false, eval a X.env), (false, eval b X.env)] := by rfl) (hs2 : starEach [b] X.env = [(false, eval b X.env)] := by rfl) : PPI X W sh tg (.Call (.Name "range" p) [a, b] [] pos) (iR2 f g) := by
  obtain ⟨ta, pa, ha⟩ := ha.out
  obtain ⟨tb, pb, hb⟩ := hb.out
  refine ⟨_, pi_range2 hg hm (pa_cons pa (pa_cons pb pa_nil hs2) hs) hs1 hs2, fun e σ H Hs Rr s hp => ?_⟩
  refine ha e σ H Hs _ s (postI_bind hp fun d v H1 Hs1 _ g1 r1 hp1 => ?_)
  refine hb e σ H1 Hs1 _ (s.grow g1) (postI_bind hp1 fun d2 v2 H2 Hs2 _ g2 r2 hp2 => ?_)
  obtain ⟨m, rfl⟩ : ∃ z, d = .int z := by
    cases d <;> first
      | exact (show False from hp2).elim
      | exact ⟨_, rfl⟩
  obtain ⟨n, rfl⟩ : ∃ z, d2 = .int z := by
    cases d2 <;> first
      | exact (show False from hp2).elim
      | exact ⟨_, rfl⟩
  cases r1
  cases r2
  have hp3 : PostI X W sh σ H2 Hs2 (if smI m && smI n then R.ok (rng m n) else .stk) Rr := hp2
  split at hp3
  · rename_i hn
    rw [Bool.and_eq_true] at hn
    obtain ⟨h1, h2⟩ := smI_ok hn.1
    obtain ⟨h3, h4⟩ := smI_ok hn.2
    exact ⟨m, n, rfl, ⟨h1, h2, h3, h4⟩, hp3 _ H2 Hs2 (Grow.refl g2.sub) itr_ok⟩
  · exact (show False from hp3).elim
theorem zipD_len : ∀ (xs ys : List D), (zipD xs ys).length = min xs.length ys.length
  | [], _ => by simp [zipD]
  | _ :: _, [] => by simp [zipD]
  | x :: xs, y :: ys => by
    unfold zipD
    rw [List.length_cons, zipD_len xs ys, List.length_cons, List.length_cons]
    omega
theorem zipD_get : ∀ (xs ys : List D) (i : Nat) (h : i < (zipD xs ys).length) (h1 : i < xs.length) (h2 : i < ys.length), (zipD xs ys)[i] = .tuple [xs[i], ys[i]]
  | [], _, _, _, h1, _ => absurd h1 (Nat.not_lt_zero _)
  | _ :: _, [], _, _, _, h2 => absurd h2 (Nat.not_lt_zero _)
  | x :: xs, y :: ys, 0, _, _, _ => rfl
  | x :: xs, y :: ys, i + 1, h, h1, h2 => zipD_get xs ys i (by unfold zipD at h; exact Nat.lt_of_succ_lt_succ h) (Nat.lt_of_succ_lt_succ h1) (Nat.lt_of_succ_lt_succ h2)
theorem itz_ok {K : PySem.W.Frag} {p q : Addr} {vs ws : List V} {xs ys : List D} {Ht Hs : Hp} (h1 : Ht p = some (.lst vs)) (r1 : RpA K Hs vs xs) (h2 : Ht q = some (.lst ws)) (r2 : RpA K Hs ws ys) : ItOk K (Itz K p q) Ht Hs (zipD xs ys) := by
  intro i H2 Hs2 s1 s2 s3
  have k1 : SqL K H2 p vs := SqL.of (s1 _ _ h1)
  have k2 : SqL K H2 q ws := SqL.of (s1 _ _ h2)
  refine ⟨fun hi => ?_, fun e => ⟨vs, ws, k1, k2, ?_⟩⟩
  · have hi' := hi
    rw [zipD_len] at hi'
    have i1 : i < xs.length := by omega
    have i2 : i < ys.length := by omega
    obtain ⟨v, hv, rv⟩ := r1.get (List.getElem?_eq_getElem i1)
    obtain ⟨w, hw, rw'⟩ := r2.get (List.getElem?_eq_getElem i2)
    refine ⟨⟨vs, ws, v, w, k1, k2, hv, hw⟩, fun x H3 y => ?_⟩
    obtain ⟨T, x1, x2, rfl, nT, rfl, f1, f2⟩ := y
    have e1 := f1 vs k1
    have e2 := f2 ws k2
    rw [hv] at e1
    rw [hw] at e2
    cases e1
    cases e2
    have gr := Grow.new (o := .tup [v, w]) s3 nT
    refine ⟨_, gr, ?_⟩
    rw [zipD_get xs ys i hi i1 i2]
    exact .tup upd_same (.cons (rv.up (s2.trans gr.sh)) (.cons (rw'.up (s2.trans gr.sh)) .nil))
  · rw [zipD_len] at e
    rw [r1.length, r2.length]
    omega
theorem ppi_zip {kk : Nat} {tpos : Pos} {elts : List Expr} (hm : X.mg "zip" = none) (ha : PPB X W a f) (hb : PPB X W b g) (hg : Gl X "zip" := by rfl) (hs : starEach [a, b] X.env = (false, eval a X.env) :: starEach [b] X.env := by rfl) (hs2 : starEach [b] X.env = (false, eval b X.env) :: starEach [] X.env := by rfl)
    (hpl : (backTo pos (starEach [b] X.env)).any (·.1) = false := by rfl) : PPI X W false (.Tuple elts kk tpos) (.Call (.Name "zip" p) [a, b] [] pos) (iZ f g) := by
  obtain ⟨ta, pa, ha⟩ := ha.out
  obtain ⟨tb, pb, hb⟩ := hb.out
  refine ⟨_, pi_zip hg hm (pa_cons pa (pa_cons pb pa_nil hs2) hs) hs hpl, fun e σ H Hs Rr s hp => ?_⟩
  refine ha e σ H Hs _ s (postI_bind hp fun d v H1 Hs1 _ g1 r1 hp1 => ?_)
  refine hb e σ H1 Hs1 _ (s.grow g1) (postI_bind hp1 fun d2 v2 H2 Hs2 _ g2 r2 hp2 => ?_)
  cases d <;> first
    | exact (show False from hp2).elim
    | skip
  cases d2 <;> first
    | exact (show False from hp2).elim
    | skip
  obtain ⟨p, vs, rfl, h1, r1⟩ := r1.list g1.sub
  obtain ⟨q, ws, rfl, h2, r2⟩ := r2.list g2.sub
  exact ⟨p, q, vs, ws, rfl, SqL.of (g2.all _ _ h1), SqL.of h2, hp2 _ H2 Hs2 (Grow.refl g2.sub) (itz_ok (g2.all _ _ h1) (r1.up g2.sh) h2 r2)⟩
theorem ppi_zipS {kk : Nat} {tpos : Pos} {elts : List Expr} (hm : X.mg "zip" = none) (ha : PPE X W a f) (hb : PPE X W b g) (hg : Gl X "zip" := by rfl) (hs : starEach [a, b] X.env = (false, eval a X.env) :: starEach [b] X.env := by rfl) (hs2 : starEach [b] X.env = (false, eval b X.env) :: starEach [] X.env := by rfl)
    (hpl : (backTo pos (starEach [b] X.env)).any (·.1) = false := by rfl) : PPI X W true (.Tuple elts kk tpos) (.Call (.Name "zip" p) [a, b] [] pos) (iZ f g) := by
  obtain ⟨ta, pa, ha⟩ := ha.out
  obtain ⟨tb, pb, hb⟩ := hb.out
  refine ⟨_, pi_zip hg hm (pa_cons pa (pa_cons pb pa_nil hs2) hs) hs hpl, fun e σ H Hs Rr s hp => ?_⟩
  refine ha e σ H Hs _ s (postI_bind hp fun d v H1 Hs1 _ g1 r1 hp1 => ?_)
  refine hb e σ H1 Hs1 _ (s.grow g1) (postI_bind hp1 fun d2 v2 H2 Hs2 _ g2 r2 hp2 => ?_)
  cases d <;> first
    | exact (show False from hp2).elim
    | skip
  cases d2 <;> first
    | exact (show False from hp2).elim
    | skip
  cases r1 with
  | lst h1 r1 =>
    cases r2 with
    | lst h2 r2 =>
      have h1' := g2.sh _ _ h1
      exact ⟨_, _, _, _, rfl, SqL.of (g2.sub _ _ h1'), SqL.of (g2.sub _ _ h2), hp2 _ H2 Hs2 (Grow.refl g2.sub) (itz_ok h1' (r1.up g2.sh) h2 r2)⟩
theorem enD_len : ∀ (n : Nat) (xs : List D), (enD n xs).length = xs.length
  | _, [] => rfl
  | n, x :: xs => by unfold enD; rw [List.length_cons, enD_len, List.length_cons]
theorem enD_get : ∀ (n : Nat) (xs : List D) (i : Nat) (h : i < (enD n xs).length) (h1 : i < xs.length), (enD n xs)[i] = .tuple [.int ((n + i : Nat) : Int), xs[i]]
  | _, [], _, _, h1 => absurd h1 (Nat.not_lt_zero _)
  | n, x :: xs, 0, _, _ => rfl
  | n, x :: xs, i + 1, h, h1 => by
    have z := enD_get (n + 1) xs i (by unfold enD at h; exact Nat.lt_of_succ_lt_succ h) (Nat.lt_of_succ_lt_succ h1)
    have e : n + (i + 1) = n + 1 + i := by omega
    rw [e]
    exact z
theorem ite_ok {K : PySem.W.Frag} {p : Addr} {vs : List V} {xs : List D} {Ht Hs : Hp} (h1 : Ht p = some (.lst vs)) (r1 : RpA K Hs vs xs) : ItOk K (Ite K p) Ht Hs (enD 0 xs) := by
  intro i H2 Hs2 s1 s2 s3
  have k1 : SqL K H2 p vs := SqL.of (s1 _ _ h1)
  refine ⟨fun hi => ?_, fun e => ⟨vs, k1, by rw [r1.length, e, enD_len]; exact Nat.le_refl _⟩⟩
  have i1 : i < xs.length := by rw [enD_len] at hi; exact hi
  obtain ⟨v, hv, rv⟩ := r1.get (List.getElem?_eq_getElem i1)
  refine ⟨⟨vs, v, k1, hv⟩, fun x H3 y => ?_⟩
  obtain ⟨T, x1, rfl, nT, rfl, f1⟩ := y
  have e1 := f1 vs k1
  rw [hv] at e1
  cases e1
  have gr := Grow.new (o := .tup [.int (i : Nat), v]) s3 nT
  refine ⟨_, gr, ?_⟩
  rw [enD_get 0 xs i hi i1, Nat.zero_add]
  exact .tup upd_same (.cons (.int _) (.cons (rv.up (s2.trans gr.sh)) .nil))
theorem ppi_en {kk : Nat} {tpos : Pos} {elts : List Expr} (hm : X.mg "enumerate" = none) (ha : PPB X W a f) (hg : Gl X "enumerate" := by rfl) (hs : starEach [a] X.env = [(false, eval a X.env)] := by rfl) :
    PPI X W false (.Tuple elts kk tpos) (.Call (.Name "enumerate" p) [a] [] pos) (iE f) := by
  obtain ⟨ta, pa, ha⟩ := ha.out
  refine ⟨_, pi_enum hg hm (pa_cons pa pa_nil hs) hs, fun e σ H Hs Rr s hp => ?_⟩
  refine ha e σ H Hs _ s (postI_bind hp fun d v H1 Hs1 _ g1 r1 hp1 => ?_)
  cases d <;> first
    | exact (show False from hp1).elim
    | skip
  obtain ⟨p, vs, rfl, h1, r1⟩ := r1.list g1.sub
  exact ⟨p, vs, rfl, SqL.of h1, hp1 _ H1 Hs1 (Grow.refl g1.sub) (ite_ok h1 r1)⟩
theorem ppi_enS {kk : Nat} {tpos : Pos} {elts : List Expr} (hm : X.mg "enumerate" = none) (ha : PPE X W a f) (hg : Gl X "enumerate" := by rfl) (hs : starEach [a] X.env = [(false, eval a X.env)] := by rfl) :
    PPI X W true (.Tuple elts kk tpos) (.Call (.Name "enumerate" p) [a] [] pos) (iE f) := by
  obtain ⟨ta, pa, ha⟩ := ha.out
  refine ⟨_, pi_enum hg hm (pa_cons pa pa_nil hs) hs, fun e σ H Hs Rr s hp => ?_⟩
  refine ha e σ H Hs _ s (postI_bind hp fun d v H1 Hs1 _ g1 r1 hp1 => ?_)
  cases d <;> first
    | exact (show False from hp1).elim
    | skip
  cases r1 with
  | lst h1 r1 => exact ⟨_, _, rfl, SqL.of (g1.sub _ _ h1), hp1 _ H1 Hs1 (Grow.refl g1.sub) (ite_ok h1 r1)⟩
end
end PL

namespace PL
open PySem PySem.Spec PyProof.Rows L2

/-! ### slots stored -/
section
variable {K : PySem.W.Frag} {e : Env} {σ : St} {H Hs : Hp}
theorem get_set {A : Type} {l : List A} {i j : Nat} {x : A} : (l.set i x)[j]? = if i = j then (if j < l.length then some x else none) else l[j]? := by
  by_cases h : i = j
  · subst h
    rw [if_pos rfl]
    by_cases hl : i < l.length
    · rw [if_pos hl, List.getElem?_set_self hl]
    · rw [if_neg hl, List.getElem?_eq_none (by simpa using hl)]
  · rw [if_neg h, List.getElem?_set_ne h]
theorem SR.set (s : SR K e σ H Hs) (i : Nat) {v : V} {d : D} (r : Rp K Hs v d) : SR K (e.set i (.sh d)) (σ.set i (some v)) H Hs := by
  refine ⟨s.sub, by rw [List.length_set, List.length_set]; exact s.len, fun j d' h => ?_, fun j xs h => ?_, fun j k xs ys p h1 h2 h3 h4 => ?_⟩
  · rw [get_set] at h ⊢
    by_cases q : i = j
    · rw [if_pos q] at h ⊢
      split at h
      · rename_i hl
        cases h
        rw [if_pos (by rw [← s.len]; exact hl)]
        exact ⟨v, rfl, r⟩
      · cases h
    · rw [if_neg q] at h ⊢
      exact s.sh j d' h
  · rw [get_set] at h ⊢
    by_cases q : i = j
    · rw [if_pos q] at h
      split at h <;> cases h
    · rw [if_neg q] at h ⊢
      exact s.ow j xs h
  · rw [get_set] at h1 h2 h3 h4
    by_cases q : i = j
    · rw [if_pos q] at h1
      split at h1 <;> cases h1
    · by_cases q' : i = k
      · rw [if_pos q'] at h2
        split at h2 <;> cases h2
      · rw [if_neg q] at h1 h3
        rw [if_neg q'] at h2 h4
        exact s.ne j k xs ys p h1 h2 h3 h4
theorem SR.drop (s : SR K e σ H Hs) (i : Nat) {v : Option V} : SR K (e.set i .no) (σ.set i v) H Hs := by
  refine ⟨s.sub, by rw [List.length_set, List.length_set]; exact s.len, fun j d' h => ?_, fun j xs h => ?_, fun j k xs ys p h1 h2 h3 h4 => ?_⟩
  · rw [get_set] at h ⊢
    by_cases q : i = j
    · rw [if_pos q] at h
      split at h <;> cases h
    · rw [if_neg q] at h ⊢
      exact s.sh j d' h
  · rw [get_set] at h ⊢
    by_cases q : i = j
    · rw [if_pos q] at h
      split at h <;> cases h
    · rw [if_neg q] at h ⊢
      exact s.ow j xs h
  · rw [get_set] at h1 h2 h3 h4
    by_cases q : i = j
    · rw [if_pos q] at h1
      split at h1 <;> cases h1
    · by_cases q' : i = k
      · rw [if_pos q'] at h2
        split at h2 <;> cases h2
      · rw [if_neg q] at h1 h3
        rw [if_neg q'] at h2 h4
        exact s.ne j k xs ys p h1 h2 h3 h4
/-- a list of our own comes to a slot -/
theorem SR.setOw (s : SR K e σ H Hs) (i : Nat) {p : Addr} {vs : List V} {xs : List D} (h1 : H p = some (.lst vs)) (h2 : Hs p = none) (h3 : RpA K Hs vs xs)
    (fr : ∀ (j : Nat) (ys : List D), e[j]? = some (.ow ys) → σ[j]? ≠ some (some (.ref p))) : SR K (e.set i (.ow xs)) (σ.set i (some (.ref p))) H Hs := by
  refine ⟨s.sub, by rw [List.length_set, List.length_set]; exact s.len, fun j d' h => ?_, fun j ys h => ?_, fun j k ys zs q g1 g2 g3 g4 => ?_⟩
  · rw [get_set] at h ⊢
    by_cases q : i = j
    · rw [if_pos q] at h
      split at h <;> cases h
    · rw [if_neg q] at h ⊢
      exact s.sh j d' h
  · rw [get_set] at h ⊢
    by_cases q : i = j
    · rw [if_pos q] at h ⊢
      split at h
      · rename_i hl
        cases h
        rw [if_pos (by rw [← s.len]; exact hl)]
        exact ⟨p, vs, rfl, h1, h2, h3⟩
      · cases h
    · rw [if_neg q] at h ⊢
      exact s.ow j ys h
  · rw [get_set] at g1 g2 g3 g4
    by_cases q1 : i = j
    · by_cases q2 : i = k
      · rw [← q1, ← q2]
      · rw [if_pos q1] at g3
        rw [if_neg q2] at g2 g4
        split at g3
        · cases g3
          exact absurd g4 (fr k zs g2)
        · cases g3
    · by_cases q2 : i = k
      · rw [if_pos q2] at g4
        rw [if_neg q1] at g1 g3
        split at g4
        · cases g4
          exact absurd g3 (fr j ys g1)
        · cases g4
      · rw [if_neg q1] at g1 g3
        rw [if_neg q2] at g2 g4
        exact s.ne j k ys zs q g1 g2 g3 g4
theorem SR.wip (s : SR K e σ H Hs) : ∀ vs : List Nat, SR K (wip vs e) (wipe σ vs) H Hs
  | [] => s
  | v :: vs => (SR.wip s vs).drop v
theorem wipe_in {σ : St} {i : Nat} : ∀ {vs : List Nat}, i ∈ vs → (wipe σ vs)[i]? = if i < σ.length then some none else none
  | [], h => nomatch h
  | v :: vs, h => by
    show ((wipe σ vs).set v none)[i]? = _
    rw [get_set, wipe_length]
    by_cases q : v = i
    · rw [if_pos q]
    · rw [if_neg q]
      exact wipe_in ((List.mem_cons.mp h).resolve_left fun z => q z.symm)
theorem wipe_wipe (σ : St) (vs : List Nat) : wipe (wipe σ vs) vs = wipe σ vs := by
  apply List.ext_getElem?
  intro j
  by_cases hj : j ∈ vs
  · rw [wipe_in hj, wipe_in hj, wipe_length]
  · rw [wipe_out hj]
theorem wipe_set {σ : St} {i : Nat} {v : Option V} {vs : List Nat} (h : i ∈ vs) : wipe (σ.set i v) vs = wipe σ vs := by
  apply List.ext_getElem?
  intro j
  by_cases hj : j ∈ vs
  · rw [wipe_in hj, wipe_in hj, List.length_set]
  · rw [wipe_out hj, wipe_out hj, get_set]
    rw [if_neg (fun z => hj (by rw [← z]; exact h))]
end

section
variable {X : Cx} {pos : Pos}
structure PPG (X : Cx) (tg : Expr) (sl : List Nat) (g : GF) : Prop where
  out : ∃ t : TG, PG X tg t ∧ ∀ (x : V) (d : D) (e : Env) (σ : St) (H Hs : Hp) (Q : St → Hp → Prop), SR X.K e σ H Hs → Rp X.K Hs x d →
    (match g d e with | .ok e' => ∀ σ', SR X.K e' σ' H Hs → (∀ vs, (∀ i ∈ sl, i ∈ vs) → wipe σ' vs = wipe σ vs) → (∀ (j : Nat) ys, e'[j]? = some (SV.ow ys) → e[j]? = some (SV.ow ys) ∧ σ'[j]? = σ[j]?) → Q σ' H | _ => False) → t x σ H Q
  ne : ∀ d e c, g d e ≠ .err c
structure PPGs (X : Cx) (ts : List Expr) (sl : List Nat) (gs : List GF) : Prop where
  out : ∃ t : TGs, PGs X ts t ∧ ∀ (xs : List V) (ds : List D) (e : Env) (σ : St) (H Hs : Hp) (Q : St → Hp → Prop), SR X.K e σ H Hs → RpA X.K Hs xs ds →
    (match gAll gs ds e with | .ok e' => ∀ σ', SR X.K e' σ' H Hs → (∀ vs, (∀ i ∈ sl, i ∈ vs) → wipe σ' vs = wipe σ vs) → (∀ (j : Nat) ys, e'[j]? = some (SV.ow ys) → e[j]? = some (SV.ow ys) ∧ σ'[j]? = σ[j]?) → Q σ' H | _ => False) → t xs σ H Q
  len : gs.length = ts.length
  ne : ∀ ds e c, gAll gs ds e ≠ .err c
theorem ppg_n (i : Nat) {x : Str} (hN : X.N.Nodup) (hx : Loc X.env.scope x := by first | exact Or.inl rfl | exact Or.inr rfl) (hi : X.N[i]? = some x := by rfl) (hf : X.fn x = true ∨ X.env.scope.names.lookup x = some .local := by first | exact .inl rfl | exact .inr rfl) : PPG X (.Name x pos) [i] (gN i) := by
  refine ⟨⟨_, pg_name hN hi hx hf, fun x d e σ H Hs Q s r h => ?_⟩, fun d e c h => nomatch h⟩
  refine h (σ.set i (some x)) (s.set i r) (fun vs hv => wipe_set (hv i (by simp))) fun j ys hj => ?_
  rw [get_set] at hj ⊢
  by_cases q : i = j
  · rw [if_pos q] at hj
    split at hj <;> cases hj
  · rw [if_neg q] at hj ⊢
    exact ⟨hj, rfl⟩
theorem ppgs_nil : PPGs X [] [] [] := by
  refine ⟨⟨_, pgs_nil, fun xs ds e σ H Hs Q s r h => ?_⟩, rfl, fun ds e c h => by cases ds <;> cases h⟩
  cases r with
  | nil => exact ⟨rfl, h σ s (fun _ _ => rfl) fun _ _ q => ⟨q, rfl⟩⟩
  | cons _ _ => exact h.elim
theorem ppgs_cons {tg : Expr} {ts : List Expr} {sl sl' : List Nat} {g : GF} {gs : List GF} (h1 : PPG X tg sl g) (h2 : PPGs X ts sl' gs) (hs : (assignEach (tg :: ts) X.env).map (·.2) = assign tg X.env :: (assignEach ts X.env).map (·.2) := by rfl) : PPGs X (tg :: ts) (sl ++ sl') (g :: gs) := by
  obtain ⟨⟨t1, p1, h1⟩, n1⟩ := h1
  obtain ⟨⟨t2, p2, h2⟩, hl, n2⟩ := h2
  refine ⟨⟨_, pgs_cons p1 p2 hs, fun xs ds e σ H Hs Q s r h => ?_⟩, by rw [List.length_cons, List.length_cons, hl], fun ds e c h => ?_⟩
  cases r with
  | nil => exact h.elim
  | cons r1 r2 =>
    rename_i v vs d ds
    have h' : (match (g d e).bind fun e' => gAll gs ds e' with | .ok e' => ∀ σ', SR X.K e' σ' H Hs → (∀ vs, (∀ i ∈ sl ++ sl', i ∈ vs) → wipe σ' vs = wipe σ vs) → (∀ (j : Nat) ys, e'[j]? = some (SV.ow ys) → e[j]? = some (SV.ow ys) ∧ σ'[j]? = σ[j]?) → Q σ' H | _ => False) := h
    refine ⟨v, vs, rfl, h1 v d e σ H Hs _ s r1 ?_⟩
    cases e1 : g d e with
    | ok e' =>
      rw [e1] at h'
      intro σ1 s1 w1 o1
      refine h2 vs ds e' σ1 H Hs Q s1 r2 ?_
      rw [R.bind_ok] at h'
      cases e2 : gAll gs ds e' with
      | ok e'' =>
        rw [e2] at h'
        exact fun σ2 s2 w2 o2 => h' σ2 s2 (fun vs hv => (w2 vs fun i hi => hv i (List.mem_append_right _ hi)).trans (w1 vs fun i hi => hv i (List.mem_append_left _ hi))) fun j ys hj => ⟨(o1 j ys (o2 j ys hj).1).1, (o2 j ys hj).2.trans (o1 j ys (o2 j ys hj).1).2⟩
      | err c => rw [e2] at h'; exact h'
      | stk => rw [e2] at h'; exact h'
    | err c => rw [e1] at h'; exact h'
    | stk => rw [e1] at h'; exact h'
  cases ds with
  | nil => cases h
  | cons d ds =>
    unfold gAll at h
    cases e1 : g d e with
    | ok e' => rw [e1] at h; exact n2 ds e' c h
    | err c' => exact n1 d e c' e1
    | stk => rw [e1] at h; cases h
theorem gAll_len : ∀ {gs : List GF} {ds : List D} {e e' : Env}, gAll gs ds e = .ok e' → ds.length = gs.length
  | [], [], _, _, _ => rfl
  | [], _ :: _, _, _, h => nomatch h
  | _ :: _, [], _, _, h => nomatch h
  | g :: gs, d :: ds, e, e', h => by
    unfold gAll at h
    cases e1 : g d e with
    | ok e2 => rw [e1] at h; rw [List.length_cons, List.length_cons, gAll_len h]
    | err c => rw [e1] at h; cases h
    | stk => rw [e1] at h; cases h
theorem ppg_t {es : List Expr} {k : Nat} {sl : List Nat} {gs : List GF} (hc : X.calm = true) (h : PPGs X es sl gs) (hn : (assignEach es X.env).length = es.length := by rfl) (hst : (assignEach es X.env).findIdx? (·.1) = none := by rfl) : PPG X (.Tuple es k pos) sl (gT gs) := by
  obtain ⟨⟨t, p, h⟩, hl, nn⟩ := h
  refine ⟨⟨_, pg_tup hc p hn hst, fun x d e σ H Hs Q s r hq => ?_⟩, fun d e c h => by cases d <;> first | (cases h; done) | exact nn _ e c h⟩
  cases d <;> first
    | exact (show False from hq).elim
    | skip
  rename_i ds
  cases r with
  | tup h1 r =>
    rename_i a vs
    have hq' : (match gAll gs ds e with | .ok e' => ∀ σ', SR X.K e' σ' H Hs → (∀ vs, (∀ i ∈ sl, i ∈ vs) → wipe σ' vs = wipe σ vs) → (∀ (j : Nat) ys, e'[j]? = some (SV.ow ys) → e[j]? = some (SV.ow ys) ∧ σ'[j]? = σ[j]?) → Q σ' H | _ => False) := hq
    refine ⟨a, vs, rfl, SqT.of (s.sub _ _ h1), ?_, h vs ds e σ H Hs Q s r hq'⟩
    cases e2 : gAll gs ds e with
    | ok e'' => rw [r.length, gAll_len e2, hl]
    | err c => rw [e2] at hq'; exact hq'.elim
    | stk => rw [e2] at hq'; exact hq'.elim
end

/-! ### comprehensions -/
section
variable {X : Cx} {W : WX} {elt tg iter : Expr} {ifs : List Expr} {scope : Scope} {own : List (Str × Nat)} {pos : Pos} {it : LF} {g : GF} {t : TF} {f : EF} {sl : List Nat}
abbrev noW : WX := fun _ _ _ _ => False
structure PPTs (X : Cx) (W : WX) (ifs : List Expr) (t : TF) : Prop where
  out : ∃ tt : TT, PTs X ifs tt ∧ ∀ e σ H Hs Q, SR X.K e σ H Hs → Post X W σ H Hs RepT (t e) Q → tt σ H Q
theorem ppts_nil : PPTs X W [] qY := ⟨_, pts_nil, fun e σ H Hs Q s hp => hp _ H Hs (Grow.refl s.sub) rfl⟩
theorem ppts_one {c : Expr} (h : PPT X W c t) : PPTs X W [c] t := let ⟨tt, p, h⟩ := h.out; ⟨tt, pts_one p, h⟩
theorem post_calm {A B : Type} {σ : St} {H Hs : Hp} {Rep : Hp → Hp → Hp → B → A → Prop} {r : R A} {Q : B → Hp → Prop} {a : A} (h : r.calm = .ok a) : r = .ok a := by
  cases r with
  | ok b => exact h
  | err c => cases h
  | stk => cases h
theorem ppf_comp (hN : X.N.Nodup) (hi : PPI X W false tg iter it) (ok : blkC X.N X.env.scope scope own = true)
    (hg : ∀ (s : Shared) (H : Hp) (C : Addr) (cl : List (Str × Addr)) (fp : List Addr), PPG (X.blk s H scope (compEnvC scope cl C X.env) fp) tg sl g)
    (ht : ∀ (s : Shared) (H : Hp) (C : Addr) (cl : List (Str × Addr)) (fp : List Addr), PPTs (X.blk s H scope (compEnvC scope cl C X.env) fp) noW ifs t)
    (he : ∀ (s : Shared) (H : Hp) (C : Addr) (cl : List (Str × Addr)) (fp : List Addr), PPE (X.blk s H scope (compEnvC scope cl C X.env) fp) noW elt f) (hsl : ∀ i ∈ sl, i ∈ own.map (·.2) := by decide)
    (hc : X.calm = true := by rfl) :
    ∃ tl, (∀ (hs : ∀ x, foldedSetIterable iter X.env x = pure x), PE X (.ListComp elt [⟨tg, iter, ifs, 0⟩] scope pos) tl) ∧
      (∀ {i : Nat} {y : Str} {py : Pos} {spos : Pos} (hs : ∀ x, foldedSetIterable iter X.env x = pure x) (hy : X.N[i]? = some y) (hyl : X.env.scope.names.lookup y = some .local)
        (hsw : swapsWith (.ListComp elt [⟨tg, iter, ifs, 0⟩] scope pos) (some (.Name y py)) spos.line X.env = pure true), PS X (.Assign [.Name y py] (.ListComp elt [⟨tg, iter, ifs, 0⟩] scope pos) spos) (tAsg tl (gName i))) ∧
      ∀ e σ H Hs Q, SR X.K e σ H Hs → Post X W σ H Hs (RepF X.K) (cmp it (own.map (·.2)) g t f e) Q → tl σ H Q := by
  obtain ⟨wi, pi, hi⟩ := hi.out
  have okB := blkOk_by ok
  have pg : ∀ (s : Shared) (H : Hp) (C : Addr) (cl : List (Str × Addr)) (fp : List Addr), PG (X.blk s H scope (compEnvC scope cl C X.env) fp) tg (fun v σ1 H1 Q1 => ∀ s H C cl fp, Classical.choose (hg s H C cl fp).out v σ1 H1 Q1) :=
    fun s H C cl fp => ⟨fun pins s1 σ1 H1 v u Q1 I r h => (Classical.choose_spec (hg s H C cl fp).out).1.run pins s1 σ1 H1 v u Q1 I r (h s H C cl fp)⟩
  have pt : ∀ (s : Shared) (H : Hp) (C : Addr) (cl : List (Str × Addr)) (fp : List Addr), PTs (X.blk s H scope (compEnvC scope cl C X.env) fp) ifs (fun σ1 H1 Q1 => ∀ s H C cl fp, Classical.choose (ht s H C cl fp).out σ1 H1 Q1) :=
    fun s H C cl fp => ⟨fun pins s1 σ1 H1 Q1 I h => (Classical.choose_spec (ht s H C cl fp).out).1.run pins s1 σ1 H1 Q1 I (h s H C cl fp)⟩
  have pe : ∀ (s : Shared) (H : Hp) (C : Addr) (cl : List (Str × Addr)) (fp : List Addr), PE (X.blk s H scope (compEnvC scope cl C X.env) fp) elt (fun σ1 H1 Q1 => ∀ s H C cl fp, Classical.choose (he s H C cl fp).out σ1 H1 Q1) :=
    fun s H C cl fp => ⟨fun pins s1 σ1 H1 Q1 I h => (Classical.choose_spec (he s H C cl fp).out).1.run pins s1 σ1 H1 Q1 I (h s H C cl fp)⟩
  refine ⟨_, fun hs => pe_lc hc hN pi okB pg pt pe hs, fun hs hy hyl hsw => ps_setLc hc hN hy hyl hsw pi okB pg pt pe hs, fun e σ H Hs Q s hp => ?_⟩
  -- the reading
  refine hi e σ H Hs _ s ?_
  unfold cmp at hp
  cases e1 : it e with
  | err c => rw [e1] at hp; exact hp
  | stk => rw [e1] at hp; exact hp
  | ok xs =>
    rw [e1, R.bind_ok] at hp
    split at hp
    · rename_i hz
      intro J H1 Hs1 g1 io D nD
      cases e2 : cLoop g t f (wip (own.map (·.2)) e) xs with
      | err c =>
        have no : ∀ (l : List PyData), cLoop g t f (wip (own.map (·.2)) e) l ≠ .err c := fun l => by
          induction l with
          | nil => exact fun h => nomatch h
          | cons x r ih =>
            unfold cLoop
            cases q1 : (g x (wip (own.map (·.2)) e)).calm with
            | err c' => exact absurd q1 R.calm_noerr
            | stk => exact fun h => nomatch h
            | ok a1 =>
              rw [R.bind_ok]
              cases q2 : (t a1).calm with
              | err c' => exact absurd q2 R.calm_noerr
              | stk => exact fun h => nomatch h
              | ok b =>
                rw [R.bind_ok]
                cases b with
                | false => exact ih
                | true =>
                  rw [if_pos rfl]
                  cases q3 : (f a1).calm with
                  | err c' => exact absurd q3 R.calm_noerr
                  | stk => exact fun h => nomatch h
                  | ok d =>
                    rw [R.bind_ok]
                    cases q4 : cLoop g t f (wip (own.map (·.2)) e) r with
                    | err c' => intro h; cases h; exact ih q4
                    | stk => exact fun h => nomatch h
                    | ok ds => exact fun h => nomatch h
        exact absurd e2 (no xs)
      | stk => rw [e2] at hp; exact (show False from hp).elim
      | ok tot =>
        rw [e2] at hp
        refine ⟨fun i m H2 => m = xs.length - i ∧ i ≤ xs.length ∧ ∃ Hs2 acc ads ods, Grow H1 Hs1 H2 Hs2 ∧ H2 D = some (.lst acc) ∧ Hs2 D = none ∧ RpA X.K Hs2 acc ads ∧ ads.length ≤ i ∧ cLoop g t f (wip (own.map (·.2)) e) (xs.drop i) = .ok ods ∧ tot = ads ++ ods,
          ⟨xs.length, rfl, Nat.zero_le _, Hs1, [], [], tot, Grow.gar g1.sub nD, upd_same, g1.sub.free nD, .nil, Nat.le_refl _, by rw [List.drop_zero]; exact e2, rfl⟩, fun i m H2 hW => ?_⟩
        obtain ⟨hm, hi', Hs2, acc, ads, ods, g2, hD, nD2, ra, hla, hc2, htot⟩ := hW
        obtain ⟨i1, i2⟩ := io i H2 Hs2 g2.all g2.sh g2.sub
        by_cases hlt : i < xs.length
        · right
          obtain ⟨go, yl⟩ := i1 hlt
          refine ⟨go, fun H3 => ∃ Hs3 acc ads ods, Grow H1 Hs1 H3 Hs3 ∧ H3 D = some (.lst acc) ∧ Hs3 D = none ∧ RpA X.K Hs3 acc ads ∧ ads.length ≤ i + 1 ∧ cLoop g t f (wip (own.map (·.2)) e) (xs.drop (i + 1)) = .ok ods ∧ tot = ads ++ ods,
            fun H3 h3 => ⟨xs.length - (i + 1), by omega, rfl, hlt, h3⟩, fun x H3 y => ?_⟩
          obtain ⟨Hs3, g3, rx⟩ := yl x H3 y
          rw [List.drop_eq_getElem_cons hlt] at hc2
          unfold cLoop at hc2
          have s3 : SR X.K (wip (own.map (·.2)) e) (wipe σ (own.map (·.2))) H3 Hs3 := ((s.grow g1).grow g2).grow g3 |>.wip _
          cases q1 : (g xs[i] (wip (own.map (·.2)) e)).calm with
          | err c => exact absurd q1 R.calm_noerr
          | stk => rw [q1] at hc2; cases hc2
          | ok ea =>
            rw [q1, R.bind_ok] at hc2
            have q1' : g xs[i] (wip (own.map (·.2)) e) = .ok ea := post_calm (B := Unit) (σ := σ) (H := H) (Hs := Hs) (Rep := fun _ _ _ _ _ => True) (Q := fun _ _ => True) q1
            intro zs zH zC zcl zfp
            refine (Classical.choose_spec (hg zs zH zC zcl zfp).out).2 x xs[i] _ _ H3 Hs3 _ s3 rx ?_
            rw [q1']
            intro σ4 s4 w4 _
            refine ⟨(w4 _ hsl).trans (wipe_wipe _ _), ?_⟩
            cases q2 : (t ea).calm with
            | err c => exact absurd q2 R.calm_noerr
            | stk => rw [q2] at hc2; cases hc2
            | ok b =>
              rw [q2, R.bind_ok] at hc2
              have q2' : t ea = .ok b := post_calm (B := Unit) (σ := σ) (H := H) (Hs := Hs) (Rep := fun _ _ _ _ _ => True) (Q := fun _ _ => True) q2
              intro zs zH zC zcl zfp
              refine (Classical.choose_spec (ht zs zH zC zcl zfp).out).2 ea σ4 H3 Hs3 _ s4 ?_
              rw [q2']
              intro b' H4 Hs4 g4 eb
              subst eb
              have hD4 : H4 D = some (.lst acc) := g4.all _ _ (g3.all _ _ hD)
              have nD3 : Hs3 D = none := g3.own _ _ hD nD2
              have nD4 : Hs4 D = none := g4.own _ _ (g3.all _ _ hD) nD3
              cases b' with
              | false =>
                rw [if_neg Bool.false_ne_true] at hc2 ⊢
                exact ⟨Hs4, acc, ads, ods, (g2.trans g3).trans g4, hD4, nD4, ra.up (g3.sh.trans g4.sh), Nat.le_succ_of_le hla, hc2, htot⟩
              | true =>
                rw [if_pos rfl] at hc2 ⊢
                cases q3 : (f ea).calm with
                | err c => exact absurd q3 R.calm_noerr
                | stk => rw [q3] at hc2; cases hc2
                | ok d =>
                  rw [q3, R.bind_ok] at hc2
                  have q3' : f ea = .ok d := post_calm (B := Unit) (σ := σ) (H := H) (Hs := Hs) (Rep := fun _ _ _ _ _ => True) (Q := fun _ _ => True) q3
                  intro zs zH zC zcl zfp
                  refine (Classical.choose_spec (he zs zH zC zcl zfp).out).2 ea σ4 H4 Hs4 _ (s4.grow g4) ?_
                  rw [q3']
                  intro y5 H5 Hs5 g5 ry
                  have hD5 : H5 D = some (.lst acc) := g5.all _ _ hD4
                  have nD5 : Hs5 D = none := g5.own _ _ hD4 nD4
                  refine ⟨acc, hD5, by rw [ra.length]; show ads.length < 16777216; have hz' : xs.length ≤ 16777216 := hz; omega, ?_⟩
                  cases q4 : cLoop g t f (wip (own.map (·.2)) e) (xs.drop (i + 1)) with
                  | err c => rw [q4] at hc2; cases hc2
                  | stk => rw [q4] at hc2; cases hc2
                  | ok ds =>
                    rw [q4] at hc2
                    cases hc2
                    have g25 := ((g2.trans g3).trans g4).trans g5
                    refine ⟨Hs5, acc ++ [y5], ads ++ [d], ds, ⟨fun p o hp => ?_, g25.sh, fun p o hp => ?_, g25.own⟩, upd_same, nD5, (ra.up ((g3.sh.trans g4.sh).trans g5.sh)).append (.cons ry .nil), by rw [List.length_append]; simpa using hla, rfl, by rw [htot, List.append_assoc]; rfl⟩
                    · rw [upd_ne (ne_of_none hp nD)]
                      exact g25.all _ _ hp
                    · rw [upd_ne (ne_of_none hp nD5)]
                      exact g25.sub _ _ hp
        · left
          have ei : i = xs.length := by omega
          refine ⟨i2 ei, ?_⟩
          rw [ei, List.drop_length] at hc2
          cases hc2
          rw [List.append_nil] at htot
          subst htot
          exact hp _ H2 Hs2 (g1.trans g2) ⟨D, acc, rfl, g1.all.free nD, hD, nD2, ra⟩
    · exact (show False from hp).elim
theorem PPF.of_comp {tl : TE} {ex : Expr} {l : LF} (h : PE X ex tl) (h2 : ∀ e σ H Hs Q, SR X.K e σ H Hs → Post X W σ H Hs (RepF X.K) (l e) Q → tl σ H Q) : PPF X W ex l := ⟨tl, h, h2⟩
/-- a new list as a datum -/
theorem PPF.e {ex : Expr} {l : LF} (h : PPF X W ex l) : PPE X W ex (eL l) := by
  obtain ⟨tl, p, h⟩ := h.out
  refine ⟨tl, p, fun e σ H Hs Q s hp => h e σ H Hs Q s ?_⟩
  unfold eL at hp
  cases e1 : l e with
  | err c => rw [e1] at hp; exact hp
  | stk => rw [e1] at hp; exact hp
  | ok xs =>
    rw [e1] at hp
    rintro v H' Hs' gr ⟨p, vs, rfl, n1, h1, n2, r⟩
    have s2 : Same (upd Hs' p (.lst vs)) H' := fun b o hb => by
      by_cases q : b = p
      · subst q; rw [upd_same] at hb; cases hb; exact h1
      · rw [upd_ne q] at hb; exact gr.sub _ _ hb
    refine hp _ H' (upd Hs' p (.lst vs)) ⟨gr.all, gr.sh.trans (same_upd n2), s2, fun b o hb nb => ?_⟩ (.lst upd_same (r.up (same_upd n2)))
    rw [upd_ne (ne_of_none hb n1)]
    exact gr.own b o hb nb
end
end PL

namespace PL
open PySem PySem.Spec PyProof.Rows L2

/-! ### statements -/
structure SB (K : PySem.W.Frag) (H0 Hb : Hp) (e : Env) (σ : St) (H Hs : Hp) : Prop where
  gr : Grow H0 Hb H Hs
  sr : SR K e σ H Hs
  new : ∀ (i : Nat) (xs : List D) (p : Addr), e[i]? = some (SV.ow xs) → σ[i]? = some (some (V.ref p)) → H0 p = none
abbrev RTT := Hp → Hp → Hp → V → D → Prop
def PostS (X : Cx) (W : WX) (RT : RTT) (H0 Hb : Hp) (o : Out) (Dn : Ends) : Prop :=
  match o with
  | .next e' => ∀ σ' H' Hs', SB X.K H0 Hb e' σ' H' Hs' → Dn.nx σ' H'
  | .ret d => ∀ v H' Hs', Grow H0 Hb H' Hs' → RT H0 H' Hs' v d → Dn.rt v H'
  | .brk e' => ∀ σ' H' Hs', SB X.K H0 Hb e' σ' H' Hs' → Dn.bk σ' H'
  | .cont e' => ∀ σ' H' Hs', SB X.K H0 Hb e' σ' H' Hs' → Dn.ct σ' H'
  | .err c => ∀ σ' H', Same H0 H' → Same Hb H' → W (clsV X.mg c) none σ' H'
  | .stk => False
structure PPS (X : Cx) (W : WX) (RT : RTT) (st : Stmt) (f : SF) : Prop where
  out : ∃ t : TS, PS X st t ∧ ∀ e σ H Hs H0 Hb Dn, SB X.K H0 Hb e σ H Hs → PostS X W RT H0 Hb (f e) Dn → t Dn σ H
structure PPSs (X : Cx) (W : WX) (RT : RTT) (st : List Stmt) (f : SF) : Prop where
  out : ∃ t : TS, PSs X st t ∧ ∀ e σ H Hs H0 Hb Dn, SB X.K H0 Hb e σ H Hs → PostS X W RT H0 Hb (f e) Dn → t Dn σ H
section
variable {K : PySem.W.Frag} {H0 Hb H Hs H1 Hs1 : Hp} {e : Env} {σ : St}
theorem SB.grow (s : SB K H0 Hb e σ H Hs) (g : Grow H Hs H1 Hs1) : SB K H0 Hb e σ H1 Hs1 := ⟨s.gr.trans g, s.sr.grow g, s.new⟩
theorem SB.set (s : SB K H0 Hb e σ H Hs) (i : Nat) {v : V} {d : D} (r : Rp K Hs v d) : SB K H0 Hb (e.set i (.sh d)) (σ.set i (some v)) H Hs := by
  refine ⟨s.gr, s.sr.set i r, fun j xs p h1 h2 => ?_⟩
  rw [get_set] at h1 h2
  by_cases q : i = j
  · rw [if_pos q] at h1
    split at h1 <;> cases h1
  · rw [if_neg q] at h1 h2
    exact s.new j xs p h1 h2
theorem SB.of {e' : Env} {σ' : St} (s : SB K H0 Hb e σ H Hs) (r : SR K e' σ' H Hs) (o : ∀ (j : Nat) ys, e'[j]? = some (SV.ow ys) → e[j]? = some (SV.ow ys) ∧ σ'[j]? = σ[j]?) : SB K H0 Hb e' σ' H Hs :=
  ⟨s.gr, r, fun i xs p h1 h2 => s.new i xs p (o i xs h1).1 ((o i xs h1).2.symm.trans h2)⟩
/-- the own list at slot i becomes another -/
theorem SB.mut (s : SB K H0 Hb e σ H Hs) {i : Nat} {xs xs' : List D} {p : Addr} {vs vs' : List V} (h1 : e[i]? = some (.ow xs)) (h2 : σ[i]? = some (some (.ref p))) (h3 : H p = some (.lst vs)) (h4 : Hs p = none) (r : RpA K Hs vs' xs') :
    SB K H0 Hb (e.set i (.ow xs')) σ (upd H p (.lst vs')) Hs := by
  have hi : i < e.length := (List.getElem?_eq_some_iff.mp h1).1
  have nw := s.new i xs p h1 h2
  refine ⟨⟨fun b o hb => ?_, s.gr.sh, fun b o hb => ?_, s.gr.own⟩, ⟨fun b o hb => ?_, by rw [List.length_set]; exact s.sr.len, fun j d hj => ?_, fun j ys hj => ?_, fun j k ys zs q g1 g2 g3 g4 => ?_⟩, fun j ys q g1 g2 => ?_⟩
  · rw [upd_ne (ne_of_none hb nw)]; exact s.gr.all _ _ hb
  · rw [upd_ne (ne_of_none hb h4)]; exact s.gr.sub _ _ hb
  · rw [upd_ne (ne_of_none hb h4)]; exact s.gr.sub _ _ hb
  · rw [get_set] at hj
    by_cases q : i = j
    · rw [if_pos q] at hj
      split at hj <;> cases hj
    · rw [if_neg q] at hj
      exact s.sr.sh j d hj
  · rw [get_set] at hj
    by_cases q : i = j
    · rw [if_pos q, if_pos (by rw [← q]; exact hi)] at hj
      cases hj
      exact ⟨p, vs', by rw [← q]; exact h2, upd_same, h4, r⟩
    · rw [if_neg q] at hj
      obtain ⟨p2, vs2, a1, a2, a3, a4⟩ := s.sr.ow j ys hj
      refine ⟨p2, vs2, a1, ?_, a3, a4⟩
      rw [upd_ne (fun z => q (s.sr.ne i j xs ys p h1 hj h2 (by rw [z] at a1; exact a1)))]
      exact a2
  · rw [get_set] at g1 g2
    have w : ∀ (j : Nat) ys, (if i = j then (if j < e.length then some (SV.ow xs') else none) else e[j]?) = some (SV.ow ys) → ∃ zs, e[j]? = some (SV.ow zs) := fun j ys hj => by
      by_cases q : i = j
      · rw [← q]; exact ⟨_, h1⟩
      · rw [if_neg q] at hj; exact ⟨_, hj⟩
    obtain ⟨a, ha⟩ := w j ys g1
    obtain ⟨b, hb⟩ := w k zs g2
    exact s.sr.ne j k a b q ha hb g3 g4
  · rw [get_set] at g1
    by_cases q' : i = j
    · rw [← q', h2] at g2
      cases g2
      exact nw
    · rw [if_neg q'] at g1
      exact s.new j ys q g1 g2
theorem SB.frz (s : SB K H0 Hb e σ H Hs) (i : Nat) : ∃ Hs', SB K H0 Hb (frz i e) σ H Hs' := by
  unfold PL.frz
  split
  · rename_i xs h1
    obtain ⟨p, vs, a1, a2, a3, a4⟩ := s.sr.ow i xs h1
    have hi : i < e.length := (List.getElem?_eq_some_iff.mp h1).1
    have sm : Same Hs (upd Hs p (.lst vs)) := same_upd a3
    have sb : Same (upd Hs p (.lst vs)) H := fun b o hb => by
      by_cases q : b = p
      · subst q; rw [upd_same] at hb; cases hb; exact a2
      · rw [upd_ne q] at hb; exact s.sr.sub _ _ hb
    refine ⟨upd Hs p (.lst vs), ⟨s.gr.all, s.gr.sh.trans sm, sb, fun b o hb nb => ?_⟩, ⟨sb, by rw [List.length_set]; exact s.sr.len, fun j d hj => ?_, fun j ys hj => ?_, fun j k ys zs q g1 g2 g3 g4 => ?_⟩, fun j ys q g1 g2 => ?_⟩
    · rw [upd_ne (ne_of_none hb (s.new i xs p h1 a1))]
      exact s.gr.own b o hb nb
    · rw [get_set] at hj
      by_cases q : i = j
      · rw [if_pos q, if_pos (by rw [← q]; exact hi)] at hj
        cases hj
        exact ⟨_, by rw [← q]; exact a1, .lst upd_same (a4.up sm)⟩
      · rw [if_neg q] at hj
        obtain ⟨v, b1, b2⟩ := s.sr.sh j d hj
        exact ⟨v, b1, b2.up sm⟩
    · rw [get_set] at hj
      by_cases q : i = j
      · rw [if_pos q] at hj
        split at hj <;> cases hj
      · rw [if_neg q] at hj
        obtain ⟨p2, vs2, b1, b2, b3, b4⟩ := s.sr.ow j ys hj
        refine ⟨p2, vs2, b1, b2, ?_, b4.up sm⟩
        rw [upd_ne (fun z => q (s.sr.ne i j xs ys p h1 hj a1 (by rw [z] at b1; exact b1)))]
        exact b3
    · rw [get_set] at g1 g2
      by_cases q1 : i = j
      · rw [if_pos q1] at g1
        split at g1 <;> cases g1
      · by_cases q2 : i = k
        · rw [if_pos q2] at g2
          split at g2 <;> cases g2
        · rw [if_neg q1] at g1
          rw [if_neg q2] at g2
          exact s.sr.ne j k ys zs q g1 g2 g3 g4
    · rw [get_set] at g1
      by_cases q1 : i = j
      · rw [if_pos q1] at g1
        split at g1 <;> cases g1
      · rw [if_neg q1] at g1
        exact s.new j ys q g1 g2
  · exact ⟨Hs, s⟩
end
section
variable {X : Cx} {W : WX} {RT : RTT} {H0 Hb : Hp} {pos : Pos}
theorem postS_bind {A B : Type} {σ : St} {H Hs : Hp} {e : Env} {Rep : Hp → Hp → Hp → B → A → Prop} {r : R A} {k : A → Out} {Dn : Ends} (s : SB X.K H0 Hb e σ H Hs) (hp : PostS X W RT H0 Hb (r.out k) Dn)
    {T : B → Hp → Prop} (h : ∀ a b H1 Hs1, r = .ok a → Grow H Hs H1 Hs1 → SB X.K H0 Hb e σ H1 Hs1 → Rep H H1 Hs1 b a → PostS X W RT H0 Hb (k a) Dn → T b H1) : Post X W σ H Hs Rep r T := by
  cases r with
  | ok a => exact fun b H1 Hs1 g rp => h a b H1 Hs1 rfl g (s.grow g) rp hp
  | err c => exact fun H' s' => hp σ H' (s.gr.all.trans s') ((s.gr.sh.trans s.gr.sub).trans s')
  | stk => exact hp
theorem ppss_nil : PPSs X W RT [] sNil := ⟨_, pss_nil, fun e σ H Hs H0 Hb Dn s hp => hp σ H Hs s⟩
theorem ppss_cons {st : Stmt} {rest : List Stmt} {f g : SF} (h1 : PPS X W RT st f) (h2 : PPSs X W RT rest g) : PPSs X W RT (st :: rest) (sSeq f g) := by
  obtain ⟨t1, p1, h1⟩ := h1.out
  obtain ⟨t2, p2, h2⟩ := h2.out
  refine ⟨_, pss_cons p1 p2, fun e σ H Hs H0 Hb Dn s hp => ?_⟩
  refine h1 e σ H Hs H0 Hb _ s ?_
  unfold sSeq at hp
  cases e1 : f e with
  | next e' => rw [e1] at hp; exact fun σ' H' Hs' s' => h2 e' σ' H' Hs' H0 Hb Dn s' hp
  | ret d => rw [e1] at hp; exact hp
  | brk d => rw [e1] at hp; exact hp
  | cont d => rw [e1] at hp; exact hp
  | err d => rw [e1] at hp; exact hp
  | stk => rw [e1] at hp; exact hp
theorem ppss_one {st : Stmt} {f : SF} (h : PPS X W RT st f) : PPSs X W RT [st] f := let ⟨t, p, h⟩ := h.out; ⟨t, pss_one p, h⟩
theorem pps_frz (i : Nat) {st : Stmt} {f : SF} (h : PPS X W RT st f) : PPS X W RT st (sFrz i f) := by
  obtain ⟨t, p, h⟩ := h.out
  refine ⟨t, p, fun e σ H Hs H0 Hb Dn s hp => ?_⟩
  obtain ⟨Hs', s'⟩ := s.frz i
  exact h _ σ H Hs' H0 Hb Dn s' hp
theorem pps_cont : PPS X W RT (.Continue pos) sCont := ⟨_, ps_continue, fun e σ H Hs H0 Hb Dn s hp => hp σ H Hs s⟩
theorem pps_brk : PPS X W RT (.Break pos) sBrk := ⟨_, ps_break, fun e σ H Hs H0 Hb Dn s hp => hp σ H Hs s⟩
variable {ex : Expr} {f : EF} {l : LF} {x : Str} {pos' : Pos}
theorem pps_set (i : Nat) (hN : X.N.Nodup) (ha : PPE X W ex f) (hx : Loc X.env.scope x := by first | exact Or.inl rfl | exact Or.inr rfl) (hi : X.N[i]? = some x := by rfl) (hs : swapsWith ex (some (.Name x pos')) pos.line X.env = pure false := by rfl)
    (hf : X.fn x = true ∨ X.env.scope.names.lookup x = some .local := by first | exact .inl rfl | exact .inr rfl) : PPS X W RT (.Assign [.Name x pos'] ex pos) (sSet (gN i) f) := by
  obtain ⟨ta, pa, ha⟩ := ha.out
  refine ⟨_, ps_set hN hi hx pa hs hf, fun e σ H Hs H0 Hb Dn s hp => ?_⟩
  refine ha e σ H Hs _ s.sr (postS_bind s hp fun d v H1 Hs1 _ g1 s1 r1 hp1 => ?_)
  exact hp1 _ H1 Hs1 (s1.set i r1)
theorem pps_setT {tg : Expr} {sl : List Nat} {g : GF} (hg : PPG X tg sl g) (ha : PPE X W ex f) (hs : swapsWithSole [tg] ex pos.line X.env = pure false := by rfl) (hw : swappedStores [tg] ex X.env = pure none := by rfl)
    (h1 : (assignEach [tg] X.env).map (·.2) = [assign tg X.env] := by rfl) : PPS X W RT (.Assign [tg] ex pos) (sSet g f) := by
  obtain ⟨ta, pa, ha⟩ := ha.out
  obtain ⟨⟨tg', pg, hg⟩, ng⟩ := hg
  refine ⟨_, ps_asg pa pg hs hw h1, fun e σ H Hs H0 Hb Dn s hp => ?_⟩
  refine ha e σ H Hs _ s.sr (postS_bind s hp fun d v H1 Hs1 _ g1 s1 r1 hp1 => ?_)
  refine hg v d e σ H1 Hs1 _ s1.sr r1 ?_
  cases e1 : g d e with
  | ok e' => rw [e1] at hp1; exact fun σ' r' w' o' => hp1 σ' H1 Hs1 (s1.of r' o')
  | err c => exact absurd e1 (ng d e c)
  | stk => rw [e1] at hp1; exact hp1
/-- name = a new list, that will be changed -/
theorem pps_own (i : Nat) (hN : X.N.Nodup) (ha : PPF X W ex l) (hx : Loc X.env.scope x := by first | exact Or.inl rfl | exact Or.inr rfl) (hi : X.N[i]? = some x := by rfl) (hs : swapsWith ex (some (.Name x pos')) pos.line X.env = pure false := by rfl)
    (hf : X.fn x = true ∨ X.env.scope.names.lookup x = some .local := by first | exact .inl rfl | exact .inr rfl) : PPS X W RT (.Assign [.Name x pos'] ex pos) (sOwn i l) := by
  obtain ⟨ta, pa, ha⟩ := ha.out
  refine ⟨_, ps_set hN hi hx pa hs hf, fun e σ H Hs H0 Hb Dn s hp => ?_⟩
  refine ha e σ H Hs _ s.sr (postS_bind s hp fun d v H1 Hs1 _ g1 s1 r1 hp1 => ?_)
  obtain ⟨p, vs, rfl, n1, h1, n2, r⟩ := r1
  have fr : ∀ (j : Nat) (ys : List D), e[j]? = some (.ow ys) → σ[j]? ≠ some (some (.ref p)) := fun j ys hj hq => by
    obtain ⟨p2, vs2, b1, b2, b3, b4⟩ := s.sr.ow j ys hj
    rw [hq] at b1
    cases b1
    rw [n1] at b2
    cases b2
  refine hp1 _ H1 Hs1 ⟨s1.gr, s1.sr.setOw i h1 n2 r fr, fun j xs q g1' g2' => ?_⟩
  rw [get_set] at g1' g2'
  by_cases z : i = j
  · rw [if_pos z] at g2'
    split at g2'
    · cases g2'
      exact s.gr.all.free n1
    · cases g2'
  · rw [if_neg z] at g1' g2'
    exact s.new j xs q g1' g2'
theorem pps_do (ha : PPE X W ex f) (hs : swapsWith ex none pos.line X.env = pure false := by rfl) : PPS X W RT (.Expr ex pos) (sDo f) := by
  obtain ⟨ta, pa, ha⟩ := ha.out
  refine ⟨_, ps_expr pa hs, fun e σ H Hs H0 Hb Dn s hp => ?_⟩
  exact ha e σ H Hs _ s.sr (postS_bind s hp fun d v H1 Hs1 _ g1 s1 r1 hp1 => hp1 σ H1 Hs1 s1)
theorem pps_ret (ha : PPE X W ex f) : PPS X W (RepE X.K) (.Return (some ex) pos) (sRet f) := by
  obtain ⟨ta, pa, ha⟩ := ha.out
  refine ⟨_, ps_ret pa, fun e σ H Hs H0 Hb Dn s hp => ?_⟩
  exact ha e σ H Hs _ s.sr (postS_bind s hp fun d v H1 Hs1 _ g1 s1 r1 hp1 => hp1 v H1 Hs1 s1.gr r1)
theorem pps_if {c : Expr} {t : TF} {a b : List Stmt} {fa fb : SF} (hc : PPT X W c t) (ha : PPSs X W RT a fa) (hb : PPSs X W RT b fb) : PPS X W RT (.If c a b pos) (sIf t fa fb) := by
  obtain ⟨tc, pc, hc⟩ := hc.out
  obtain ⟨ta, pa, ha⟩ := ha.out
  obtain ⟨tb, pb, hb⟩ := hb.out
  refine ⟨_, ps_if pc pa pb, fun e σ H Hs H0 Hb Dn s hp => ?_⟩
  refine hc e σ H Hs _ s.sr (postS_bind s hp fun d k H1 Hs1 _ g1 s1 r1 hp1 => ?_)
  subst r1
  cases k with
  | true => exact ha e σ H1 Hs1 H0 Hb Dn s1 hp1
  | false => exact hb e σ H1 Hs1 H0 Hb Dn s1 hp1
theorem SB.at (s : SB X.K H0 Hb e σ H Hs) {Hb' : Hp} (g : Grow H0 Hb H1 Hb') (s' : SB X.K H0 Hb' e' σ' H' Hs') : SB X.K H0 Hb e' σ' H' Hs' :=
  ⟨⟨s'.gr.all, g.sh.trans s'.gr.sh, s'.gr.sub, fun p o h n => s'.gr.own p o h (g.own p o h n)⟩, s'.sr, s'.new⟩
theorem pps_for {tg it : Expr} {body : List Stmt} {fi : LF} {g : GF} {fb : SF} {sl : List Nat} (hpo : PassesOwn (model X.prog X.w) X.A X.env X.xe) (hi : PPI X W true tg it fi) (hg : PPG X tg sl g) (hb : PPSs X W RT body fb)
    (hc : X.calm = true := by rfl) (hs : ∀ x, foldedSetIterable it X.env x = pure x := by intro _; rfl) : PPS X W RT (.For tg it body [] pos) (sFor fi g fb) := by
  obtain ⟨ti, pi, hi⟩ := hi.out
  obtain ⟨⟨tg', pg, hg⟩, ng⟩ := hg
  obtain ⟨tb, pb, hb⟩ := hb.out
  refine ⟨_, ps_for hpo hc pi pg pb hs, fun e σ H Hs H0 Hb Dn s hp => ?_⟩
  refine hi e σ H Hs _ s.sr ?_
  unfold sFor at hp
  cases e1 : fi e with
  | err c => rw [e1] at hp; exact fun H' s' => hp σ H' (s.gr.all.trans s') ((s.gr.sh.trans s.gr.sub).trans s')
  | stk => rw [e1] at hp; exact hp
  | ok xs =>
    rw [e1] at hp
    intro J H1 Hs1 g1 io
    have s1 := s.grow g1
    have gb : Grow H0 Hb H1 Hs1 := s1.gr
    refine ⟨fun i m σ2 H2 => m = xs.length - i ∧ i ≤ xs.length ∧ ∃ Hs2 e2, SB X.K H0 Hs1 e2 σ2 H2 Hs2 ∧ PostS X W RT H0 Hb (fLoop g fb (xs.drop i) e2) Dn,
      ⟨xs.length, rfl, Nat.zero_le _, Hs1, e, ⟨⟨gb.all, Same.refl _, gb.sub, fun _ _ _ n => n⟩, s1.sr, s1.new⟩, by rw [List.drop_zero]; exact hp⟩, fun i m σ2 H2 hW => ?_⟩
    obtain ⟨hm, hle, Hs2, e2, s2, hp2⟩ := hW
    obtain ⟨i1, i2⟩ := io i H2 Hs2 (s2.gr.sh.trans s2.gr.sub) s2.gr.sh s2.gr.sub
    by_cases hlt : i < xs.length
    · right
      obtain ⟨go, yl⟩ := i1 hlt
      refine ⟨go, fun σ3 H3 => ∃ Hs3 e3, SB X.K H0 Hs1 e3 σ3 H3 Hs3 ∧ PostS X W RT H0 Hb (fLoop g fb (xs.drop (i + 1)) e3) Dn, fun σ3 H3 h3 => ⟨xs.length - (i + 1), by omega, rfl, hlt, h3⟩, fun x H3 y => ?_⟩
      obtain ⟨Hs3, g3, rx⟩ := yl x H3 y
      have s3 := s2.grow g3
      rw [List.drop_eq_getElem_cons hlt] at hp2
      unfold fLoop at hp2
      refine hg x xs[i] e2 σ2 H3 Hs3 _ s3.sr rx ?_
      cases q1 : g xs[i] e2 with
      | err c => exact absurd q1 (ng _ _ c)
      | stk => rw [q1] at hp2; exact hp2
      | ok e3 =>
        rw [q1] at hp2
        intro σ3 r3 w3 o3
        have s4 : SB X.K H0 Hs1 e3 σ3 H3 Hs3 := s3.of r3 o3
        refine hb e3 σ3 H3 Hs3 H0 Hs1 _ s4 ?_
        have hp3 : PostS X W RT H0 Hb (match fb e3 with
          | .next e2 => fLoop g fb (xs.drop (i + 1)) e2
          | .cont e2 => fLoop g fb (xs.drop (i + 1)) e2
          | .brk e2 => .next e2
          | .ret d => .ret d
          | .err c => .err c
          | .stk => .stk) Dn := hp2
        cases q2 : fb e3 with
        | next e4 => rw [q2] at hp3; exact fun σ4 H4 Hs4 s5 => ⟨Hs4, e4, s5, hp3⟩
        | cont e4 => rw [q2] at hp3; exact fun σ4 H4 Hs4 s5 => ⟨Hs4, e4, s5, hp3⟩
        | brk e4 => rw [q2] at hp3; exact fun σ4 H4 Hs4 s5 => hp3 σ4 H4 Hs4 (s.at gb s5)
        | ret d => rw [q2] at hp3; exact fun v H4 Hs4 g4 rt => hp3 v H4 Hs4 ⟨g4.all, gb.sh.trans g4.sh, g4.sub, fun p o h n => g4.own p o h (gb.own p o h n)⟩ rt
        | err c => rw [q2] at hp3; exact fun σ' H' z1 z2 => hp3 σ' H' z1 (gb.sh.trans z2)
        | stk => rw [q2] at hp3; exact hp3
    · left
      have ei : i = xs.length := by omega
      refine ⟨i2 ei, ?_⟩
      rw [ei, List.drop_length] at hp2
      exact hp2 σ2 H2 Hs2 (s.at gb s2)
theorem pps_while {c : Expr} {t : TF} {body : List Stmt} {fb : SF} (hpo : PassesOwn (model X.prog X.w) X.A X.env X.xe) (hc : PPT X W c t) (hb : PPSs X W RT body fb) : PPS X W RT (.While c body [] pos) (sWhile t fb) := by
  obtain ⟨tc, pc, hc⟩ := hc.out
  obtain ⟨tb, pb, hb⟩ := hb.out
  refine ⟨_, ps_while hpo pc pb, fun e σ H Hs H0 Hb Dn s hp => ?_⟩
  unfold sWhile at hp
  split at hp
  · rename_i hex
    refine ⟨fun m σ2 H2 => ∃ Hs2 e2, SB X.K H0 Hb e2 σ2 H2 Hs2 ∧ PostS X W RT H0 Hb (wLoop t fb m e2) Dn, ⟨_, Hs, e, s, hp⟩, fun m σ2 H2 hW => ?_⟩
    obtain ⟨Hs2, e2, s2, hp2⟩ := hW
    cases m with
    | zero => exact (show False from hp2).elim
    | succ n =>
      refine hc e2 σ2 H2 Hs2 _ s2.sr (postS_bind s2 hp2 fun d k H3 Hs3 _ g3 s3 r3 hp3 => ?_)
      subst r3
      cases k with
      | false => exact hp3 σ2 H3 Hs3 s3
      | true =>
        rw [if_pos rfl]
        refine ⟨fun σ4 H4 => ∃ Hs4 e4, SB X.K H0 Hb e4 σ4 H4 Hs4 ∧ PostS X W RT H0 Hb (wLoop t fb n e4) Dn, fun σ4 H4 h4 => ⟨n, Nat.lt_succ_self n, h4⟩, hb e2 σ2 H3 Hs3 H0 Hb _ s3 ?_⟩
        have hp4 : PostS X W RT H0 Hb (match fb e2 with
          | .next e2 => wLoop t fb n e2
          | .cont e2 => wLoop t fb n e2
          | .brk e2 => .next e2
          | .ret d => .ret d
          | .err c => .err c
          | .stk => .stk) Dn := hp3
        cases q2 : fb e2 with
        | next e4 => rw [q2] at hp4; exact fun σ4 H4 Hs4 s5 => ⟨Hs4, e4, s5, hp4⟩
        | cont e4 => rw [q2] at hp4; exact fun σ4 H4 Hs4 s5 => ⟨Hs4, e4, s5, hp4⟩
        | brk e4 => rw [q2] at hp4; exact hp4
        | ret d => rw [q2] at hp4; exact hp4
        | err c => rw [q2] at hp4; exact hp4
        | stk => rw [q2] at hp4; exact hp4
  · exact (show False from hp).elim

/-- name = [..], the name a local that no comprehension asks -/
theorem pps_setC (i : Nat) {elt tg iter : Expr} {ifs : List Expr} {scope : Scope} {own : List (Str × Nat)} {cpos : Pos} {it : LF} {g : GF} {t : TF} {f : EF} {sl : List Nat} {x : Str} {py pos : Pos} (own' : List (Str × Nat) := own)
    (hN : X.N.Nodup) (hi : PPI X W false tg iter it) (ok : blkC X.N X.env.scope scope own = true)
    (hg : ∀ (s : Shared) (H : Hp) (C : Addr) (cl : List (Str × Addr)) (fp : List Addr), PPG (X.blk s H scope (compEnvC scope cl C X.env) fp) tg sl g)
    (ht : ∀ (s : Shared) (H : Hp) (C : Addr) (cl : List (Str × Addr)) (fp : List Addr), PPTs (X.blk s H scope (compEnvC scope cl C X.env) fp) noW ifs t)
    (he : ∀ (s : Shared) (H : Hp) (C : Addr) (cl : List (Str × Addr)) (fp : List Addr), PPE (X.blk s H scope (compEnvC scope cl C X.env) fp) noW elt f) (hsl : ∀ i ∈ sl, i ∈ own.map (·.2) := by decide)
    (hc : X.calm = true := by rfl) (hs : ∀ x, foldedSetIterable iter X.env x = pure x := by intro _; rfl) (hy : X.N[i]? = some x := by rfl) (hyl : X.env.scope.names.lookup x = some .local := by rfl)
    (hsw : swapsWith (.ListComp elt [⟨tg, iter, ifs, 0⟩] scope cpos) (some (.Name x py)) pos.line X.env = pure true := by exact sw_true rfl rfl rfl (by kernel_rfl)) :
    PPS X W RT (.Assign [.Name x py] (.ListComp elt [⟨tg, iter, ifs, 0⟩] scope cpos) pos) (sSet (gN i) (eL (cmp it (own.map (·.2)) g t f))) := by
  obtain ⟨tl, h1, h2, h3⟩ := ppf_comp (W := W) (pos := cpos) hN hi ok hg ht he hsl hc
  have F : ∀ e σ H Hs Q, SR X.K e σ H Hs → Post X W σ H Hs (RepE X.K) (eL (cmp it (own.map (·.2)) g t f) e) Q → tl σ H Q := by
    have z := (PPF.of_comp (W := W) (h1 hs) h3)
    intro e σ H Hs Q s hp
    refine h3 e σ H Hs Q s ?_
    unfold eL at hp
    cases e1 : cmp it (own.map (·.2)) g t f e with
    | err c => rw [e1] at hp; exact hp
    | stk => rw [e1] at hp; exact hp
    | ok xs =>
      rw [e1] at hp
      rintro v H' Hs' gr ⟨p, vs, rfl, n1, k1, n2, r⟩
      have s2 : Same (upd Hs' p (.lst vs)) H' := fun b o hb => by
        by_cases q : b = p
        · subst q; rw [upd_same] at hb; cases hb; exact k1
        · rw [upd_ne q] at hb; exact gr.sub _ _ hb
      refine hp _ H' (upd Hs' p (.lst vs)) ⟨gr.all, gr.sh.trans (same_upd n2), s2, fun b o hb nb => ?_⟩ (.lst upd_same (r.up (same_upd n2)))
      rw [upd_ne (ne_of_none hb n1)]
      exact gr.own b o hb nb
  refine ⟨_, h2 hs hy hyl hsw, fun e σ H Hs H0 Hb Dn s hp => ?_⟩
  refine F e σ H Hs _ s.sr (postS_bind s hp fun d v H1 Hs1 _ g1 s1 r1 hp1 => ?_)
  exact hp1 _ H1 Hs1 (s1.set i r1)
/-- a comprehension as a value -/
theorem ppe_comp {elt tg iter : Expr} {ifs : List Expr} {scope : Scope} {own : List (Str × Nat)} {cpos : Pos} {it : LF} {g : GF} {t : TF} {f : EF} {sl : List Nat}
    (hN : X.N.Nodup) (hi : PPI X W false tg iter it) (ok : blkC X.N X.env.scope scope own = true)
    (hg : ∀ (s : Shared) (H : Hp) (C : Addr) (cl : List (Str × Addr)) (fp : List Addr), PPG (X.blk s H scope (compEnvC scope cl C X.env) fp) tg sl g)
    (ht : ∀ (s : Shared) (H : Hp) (C : Addr) (cl : List (Str × Addr)) (fp : List Addr), PPTs (X.blk s H scope (compEnvC scope cl C X.env) fp) noW ifs t)
    (he : ∀ (s : Shared) (H : Hp) (C : Addr) (cl : List (Str × Addr)) (fp : List Addr), PPE (X.blk s H scope (compEnvC scope cl C X.env) fp) noW elt f) (hsl : ∀ i ∈ sl, i ∈ own.map (·.2) := by decide)
    (hc : X.calm = true := by rfl) (hs : ∀ x, foldedSetIterable iter X.env x = pure x := by intro _; rfl) :
    PPE X W (.ListComp elt [⟨tg, iter, ifs, 0⟩] scope cpos) (eL (cmp it (own.map (·.2)) g t f)) := by
  obtain ⟨tl, h1, h2, h3⟩ := ppf_comp (W := W) (pos := cpos) hN hi ok hg ht he hsl hc
  exact (PPF.of_comp (W := W) (h1 hs) h3).e
/-! ### append, extend, x[k] = d -/
theorem own_at {e : Env} {σ : St} {H Hs : Hp} {i : Nat} (s : SR X.K e σ H Hs) {xs : List D} (h : e[i]? = some (.ow xs)) : ∃ p vs, σ[i]? = some (some (V.ref p)) ∧ H p = some (.lst vs) ∧ Hs p = none ∧ RpA X.K Hs vs xs := s.ow i xs h
theorem pps_app (i : Nat) {a : Expr} {p2 p3 : Pos} (ha : PPE X W a f) (hN : X.N[i]? = some x := by rfl) (hv : Vis X.env.scope x := by first | exact Or.inl rfl | exact Or.inr (Or.inl rfl) | exact Or.inr (Or.inr rfl)) (hd : (x == ("__debug__" : Str)) = false := by decide) (hcd : (x == ("__classdict__" : Str)) = false := by decide)
    (hs : swapsWith (.Call (.Attribute (.Name x pos') "append" p2) [a] [] p3) none pos.line X.env = pure false := by rfl)
    (hbase : attributeBase (.Name x pos') "append" X.env (eval (.Name x pos') X.env) = eval (.Name x pos') X.env := by rfl)
    (hfew : ((backTo p3 (starEach [a] X.env)).all (fun x => !x.1) && (backToKw p3 (keywordEach [] X.env)).all (fun x => x.1.isSome)
      && decide ([a].length + ([] : List Keyword).length + (if ([] : List Keyword).isEmpty then 0 else 1) < 30)) = true := by rfl)
    (hline : (p2.endLine == p3.line) = true := by rfl) (hst : starEach [a] X.env = (false, eval a X.env) :: starEach [] X.env := by rfl) :
    PPS X W RT (.Expr (.Call (.Attribute (.Name x pos') "append" p2) [a] [] p3) pos) (sApp i f) := by
  obtain ⟨ta, pa, ha⟩ := ha.out
  refine ⟨_, ps_expr (pe_bm PySem.F.plainAttrs_list PySem.F.slot_list_append PySem.F.type_list_append mt_append (pe_var hN hv hd hcd) (pa_cons pa pa_nil hst) hbase hfew hline hst) hs, fun e σ H Hs H0 Hb Dn s hp => ?_⟩
  unfold sApp at hp
  split at hp
  · rename_i xs h1
    obtain ⟨p, vs, a1, a2, a3, a4⟩ := s.sr.ow i xs h1
    refine ⟨_, a1, .inl ⟨rfl, vs, SqL.of a2⟩, ha e σ H Hs _ s.sr (postS_bind s hp fun d v H1 Hs1 _ g1 s1 r1 hp1 => ?_)⟩
    have hp2 : PostS X W RT H0 Hb (if xs.length < szL then Out.next (e.set i (.ow (xs ++ [d]))) else .stk) Dn := hp1
    split at hp2
    · rename_i hz
      refine ⟨p, vs, v, rfl, rfl, g1.all _ _ a2, by rw [a4.length]; exact hz, hp2 σ _ Hs1 (s1.mut h1 a1 (g1.all _ _ a2) (g1.own _ _ a2 a3) ((a4.up g1.sh).append (.cons r1 .nil)))⟩
    · exact (show False from hp2).elim
  · exact (show False from hp).elim
theorem pps_ext (i : Nat) {a : Expr} {p2 p3 : Pos} (ha : PPB X W a f) (hN : X.N[i]? = some x := by rfl) (hv : Vis X.env.scope x := by first | exact Or.inl rfl | exact Or.inr (Or.inl rfl) | exact Or.inr (Or.inr rfl)) (hd : (x == ("__debug__" : Str)) = false := by decide) (hcd : (x == ("__classdict__" : Str)) = false := by decide)
    (hs : swapsWith (.Call (.Attribute (.Name x pos') "extend" p2) [a] [] p3) none pos.line X.env = pure false := by rfl)
    (hbase : attributeBase (.Name x pos') "extend" X.env (eval (.Name x pos') X.env) = eval (.Name x pos') X.env := by rfl)
    (hfew : ((backTo p3 (starEach [a] X.env)).all (fun x => !x.1) && (backToKw p3 (keywordEach [] X.env)).all (fun x => x.1.isSome)
      && decide ([a].length + ([] : List Keyword).length + (if ([] : List Keyword).isEmpty then 0 else 1) < 30)) = true := by rfl)
    (hline : (p2.endLine == p3.line) = true := by rfl) (hst : starEach [a] X.env = (false, eval a X.env) :: starEach [] X.env := by rfl) :
    PPS X W RT (.Expr (.Call (.Attribute (.Name x pos') "extend" p2) [a] [] p3) pos) (sExt i f) := by
  obtain ⟨ta, pa, ha⟩ := ha.out
  refine ⟨_, ps_expr (pe_bm PySem.F.plainAttrs_list PySem.F.slot_list_extend PySem.F.type_list_extend mt_extend (pe_var hN hv hd hcd) (pa_cons pa pa_nil hst) hbase hfew hline hst) hs, fun e σ H Hs H0 Hb Dn s hp => ?_⟩
  unfold sExt at hp
  split at hp
  · rename_i xs h1
    obtain ⟨p, vs, a1, a2, a3, a4⟩ := s.sr.ow i xs h1
    refine ⟨_, a1, .inl ⟨rfl, vs, SqL.of a2⟩, ha e σ H Hs _ s.sr (postS_bind s hp fun d v H1 Hs1 _ g1 s1 r1 hp1 => ?_)⟩
    obtain ⟨ys, rfl⟩ : ∃ ys, d = .list ys := by
      cases d <;> first
        | exact (show False from hp1).elim
        | exact ⟨_, rfl⟩
    obtain ⟨q, ws, rfl, b1, b2⟩ := r1.list g1.sub
    have hp2 : PostS X W RT H0 Hb (if xs.length + ys.length ≤ szL then Out.next (e.set i (.ow (xs ++ ys))) else .stk) Dn := hp1
    split at hp2
    · rename_i hz
      refine ⟨p, q, vs, ws, rfl, rfl, g1.all _ _ a2, b1, by rw [a4.length, b2.length]; exact hz, hp2 σ _ Hs1 (s1.mut h1 a1 (g1.all _ _ a2) (g1.own _ _ a2 a3) ((a4.up g1.sh).append b2))⟩
    · exact (show False from hp2).elim
  · exact (show False from hp).elim
theorem pps_put (i : Nat) {k : Expr} {g : EF} {p2 : Pos} (hk : PPE X W k g) (ha : PPE X W ex f) (hN : X.N[i]? = some x := by rfl) (hv : Vis X.env.scope x := by first | exact Or.inl rfl | exact Or.inr (Or.inl rfl) | exact Or.inr (Or.inr rfl)) (hd : (x == ("__debug__" : Str)) = false := by decide) (hcd : (x == ("__classdict__" : Str)) = false := by decide)
    (hs : swapsWithSole [.Subscript (.Name x pos') k p2] ex pos.line X.env = pure false := by rfl) (hw : swappedStores [.Subscript (.Name x pos') k p2] ex X.env = pure none := by rfl)
    (h1 : (assignEach [.Subscript (.Name x pos') k p2] X.env).map (·.2) = [assign (.Subscript (.Name x pos') k p2) X.env] := by rfl)
    (hs2 : ∀ v, assign (.Subscript (.Name x pos') k p2) X.env v = (do
      let ov ← holding [v] (eval (.Name x pos') X.env)
      let iv ← holding [v, ov] (eval k X.env)
      standAt p2
      holding [v, ov, iv] (setItem ov iv v)
      release [v, ov, iv] []) := by intro _; rfl) : PPS X W RT (.Assign [.Subscript (.Name x pos') k p2] ex pos) (sPut i g f) := by
  obtain ⟨ta, pa, ha⟩ := ha.out
  obtain ⟨tk, pk, hk⟩ := hk.out
  refine ⟨_, ps_asg pa (pg_sub (pe_var hN hv hd hcd) pk set_list hs2) hs hw h1, fun e σ H Hs H0 Hb Dn s hp => ?_⟩
  unfold sPut at hp
  split at hp
  · rename_i xs h1
    obtain ⟨p, vs, a1, a2, a3, a4⟩ := s.sr.ow i xs h1
    refine ha e σ H Hs _ s.sr (postS_bind s hp fun d v H1 Hs1 _ g1 s1 r1 hp1 => ?_)
    refine ⟨_, a1, hk e σ H1 Hs1 _ s1.sr (postS_bind s1 hp1 fun kd kv H2 Hs2 _ g2 s2 r2 hp2 => ?_)⟩
    obtain ⟨j, rfl⟩ : ∃ j, kd = .int j := by
      cases kd <;> first
        | exact (show False from hp2).elim
        | exact ⟨_, rfl⟩
    cases r2
    cases e3 : ixN xs.length j with
    | none =>
      have hp3 : PostS X W RT H0 Hb ((toR (ixN xs.length j)).out fun n => Out.next (e.set i (.ow (xs.set n d)))) Dn := hp2
      rw [e3] at hp3
      exact (show False from hp3).elim
    | some n =>
      have hp3 : PostS X W RT H0 Hb ((toR (ixN xs.length j)).out fun n => Out.next (e.set i (.ow (xs.set n d)))) Dn := hp2
      rw [e3] at hp3
      have g12 := g1.trans g2
      refine ⟨p, vs, j, n, rfl, rfl, g12.all _ _ a2, by rw [a4.length]; exact e3, hp3 σ _ Hs2 (s2.mut h1 a1 (g12.all _ _ a2) (g12.own _ _ a2 a3) ((a4.up g12.sh).set (r1.up g2.sh)))⟩
  · exact (show False from hp).elim
/-! ### raise -/
theorem pps_raise {c m : Str} {C : Addr} {j : Nat} {p p2 p3 : Pos} {bmB : List Value} {B newId initId : String} (tk : Takes X W) (F : ExcBaseFacts B newId initId bmB) (q : PySem.W.excIn X.K C bmB newId = true) (gC : X.mg c = some (.ref C)) (kC : PySem.W.keepIn X.K (.ref C) = true) (r : Raises X (.ref C))
    (hg : Gl X c := by rfl) (hdb : (c == ("__debug__" : Str)) = false := by decide) (hc : X.calm = true := by rfl) : PPS X W RT (.Raise (some (.Call (.Name c p) [.Constant (.str m) j p2] [] p3)) none pos) (sRaise c) := by
  refine ⟨_, ps_raise hc tk (pmk_own F q gC kC r hg hdb), fun e σ H Hs H0 Hb Dn s hp => ?_⟩
  have z := hp σ H s.gr.all (s.gr.sh.trans s.gr.sub)
  unfold clsV at z
  rw [gC] at z
  exact z
end
/-! ### a def -/
section
variable {P : Program} {w : World} {K : PySem.W.Frag} {mg : Str → Option Value} {base : Heap}
theorem replicate_no {n i : Nat} {d : D} : (List.replicate n SV.no)[i]? ≠ some (.sh d) := fun h => by
  rw [List.getElem?_replicate] at h
  split at h <;> cases h
theorem replicate_no' {n i : Nat} {d : List D} : (List.replicate n SV.no)[i]? ≠ some (.ow d) := fun h => by
  rw [List.getElem?_replicate] at h
  split at h <;> cases h
theorem fnP_of {x qual : Str} {st : Stmt} {f : Addr} {fd : FuncData} {N ps : List Str} {k : Nat} {b : SF} (F : Fun K x qual st f fd) (S : FnScope N ps (defScope st))
    (hbody : ∀ (cdv : Value) (A : Around) (outer : List PySem.Env) (s : Shared) (H : Hp) (E : XK), Room k (A.deeper (envOfC qual (defScope st) s.heap.objs.size f cdv)) →
      PPSs (cxOf (L2.CX P w) P w K mg base N qual (defScope st) f cdv A outer s H E) (fun cls d _ H => E cls d H) (RepE K) (defBody st) b) :
    FnP P w K mg base (k + 1) f fd ps (fnR N.length b) := by
  refine F.okX S (fun vs H Q E h => ?_) fun cdv A outer s H vs Q E hr h => ?_
  · obtain ⟨Hs, ds, _, r, hl, _⟩ := h
    rw [r.length]; exact hl
  · obtain ⟨Hs, ds, sm, r, hl, h⟩ := h
    obtain ⟨t, p, ht⟩ := (hbody cdv A outer s H E hr).out
    refine ⟨t, p, ht (ds.map SV.sh ++ List.replicate (N.length - ds.length) SV.no) (L2.start N vs) H Hs H Hs _ ⟨Grow.refl sm, ⟨sm, ?_, fun i d hi => ?_, fun i xs hi => ?_, fun i j xs ys q h1 h2 h3 h4 => ?_⟩, fun i xs q h1 h2 => ?_⟩ ?_⟩
    · unfold L2.start
      rw [List.length_append, List.length_append, List.length_map, List.length_map, List.length_replicate, List.length_replicate, r.length]
    · unfold L2.start
      by_cases hlt : i < ds.length
      · rw [List.getElem?_append_left (by rw [List.length_map]; exact hlt), List.getElem?_map, List.getElem?_eq_getElem hlt] at hi
        cases hi
        obtain ⟨v, h1, h2⟩ := r.get (List.getElem?_eq_getElem hlt)
        refine ⟨v, ?_, h2⟩
        rw [List.getElem?_append_left (by rw [List.length_map, r.length]; exact hlt), List.getElem?_map, h1]
        rfl
      · rw [List.getElem?_append_right (by rw [List.length_map]; omega)] at hi
        exact absurd hi replicate_no
    · by_cases hlt : i < ds.length
      · rw [List.getElem?_append_left (by rw [List.length_map]; exact hlt), List.getElem?_map, List.getElem?_eq_getElem hlt] at hi
        cases hi
      · rw [List.getElem?_append_right (by rw [List.length_map]; omega)] at hi
        exact absurd hi replicate_no'
    · by_cases hlt : i < ds.length
      · rw [List.getElem?_append_left (by rw [List.length_map]; exact hlt), List.getElem?_map, List.getElem?_eq_getElem hlt] at h1
        cases h1
      · rw [List.getElem?_append_right (by rw [List.length_map]; omega)] at h1
        exact absurd h1 replicate_no'
    · by_cases hlt : i < ds.length
      · rw [List.getElem?_append_left (by rw [List.length_map]; exact hlt), List.getElem?_map, List.getElem?_eq_getElem hlt] at h1
        cases h1
      · rw [List.getElem?_append_right (by rw [List.length_map]; omega)] at h1
        exact absurd h1 replicate_no'
    · unfold fnR at h
      cases e1 : b (ds.map SV.sh ++ List.replicate (N.length - ds.length) SV.no) with
      | next e' => rw [e1] at h; exact fun σ' H' Hs' s' => h .non H' Hs' s'.gr .non
      | ret d => rw [e1] at h; exact fun v H' Hs' g rt => h v H' Hs' g rt
      | brk e' => rw [e1] at h; exact (show False from h).elim
      | cont e' => rw [e1] at h; exact (show False from h).elim
      | err c => rw [e1] at h; exact fun σ' H' g _ => h H' g
      | stk => rw [e1] at h; exact h
end

/-! ### more new lists -/
section
variable {X : Cx} {W : WX} {a b : Expr} {f g : EF} {pos p p2 : Pos}
theorem ppf_mul (ha : PPB X W a f) (hb : PPB X W b g) : PPF X W (.BinOp a .Mult b pos) (lMul f g) := by
  obtain ⟨ta, pa, ha⟩ := ha.out
  obtain ⟨tb, pb, hb⟩ := hb.out
  refine ⟨tOp rRep ta tb, pe_op op_rep pa pb, fun e σ H Hs Q s hp => ?_⟩
  have an : ∀ H1, Same H H1 → ∀ H' Hs' v xs, RepF X.K H1 H' Hs' v xs → RepF X.K H H' Hs' v xs := fun H1 s1 H' Hs' v xs ⟨p, vs, h1, h2, h3⟩ => ⟨p, vs, h1, s1.free h2, h3⟩
  have hp0 : Post X W σ H Hs (RepF X.K) ((f e).bind fun d1 => (g e).bind fun d2 => (opMul d1 d2).bind asL) Q := by
    unfold lMul e2 at hp
    cases e1 : f e with
    | ok d1 =>
      rw [e1] at hp
      cases e2 : g e with
      | ok d2 => rw [R.bind_ok, e2] at hp; exact hp
      | err c => rw [R.bind_ok, e2] at hp; exact hp
      | stk => rw [R.bind_ok, e2] at hp; exact hp
    | err c => rw [e1] at hp; exact hp
    | stk => rw [e1] at hp; exact hp
  refine ha e σ H Hs _ s (Post.bind hp0 an fun d1 x H1 Hs1 he1 g1 r1 hp1 => ?_)
  have an1 : ∀ H2, Same H1 H2 → ∀ H' Hs' v xs, RepF X.K H2 H' Hs' v xs → RepF X.K H1 H' Hs' v xs := fun H1 s1 H' Hs' v xs ⟨p, vs, h1, h2, h3⟩ => ⟨p, vs, h1, s1.free h2, h3⟩
  refine hb e σ H1 Hs1 _ (s.grow g1) (Post.bind hp1 an1 fun d2 y H2 Hs2 he2 g2 r2 hp2 => ?_)
  cases d1 <;> cases d2 <;> first
    | exact (show False from hp2).elim
    | skip
  · dsimp only [opMul] at hp2
    split at hp2 <;> exact (show False from hp2).elim
  · dsimp only [opMul] at hp2
    split at hp2
    · exact (show False from hp2).elim
    · split at hp2 <;> exact (show False from hp2).elim
  · rename_i k
    dsimp only [opMul] at hp2
    split at hp2
    · rename_i hz
      obtain ⟨p, vs, rfl, h1, r1⟩ := (r1.up g2).list g2.sub
      refine ⟨p, k, vs, rfl, r2.int, h1, by omega, by omega, by rw [r1.length]; exact hz.2.2, fun l hl => hp2 _ _ _ (Grow.gar g2.sub hl) ⟨l, _, rfl, hl, upd_same, g2.sub.free hl, r1.reps _⟩⟩
    · exact (show False from hp2).elim
theorem rgV_rp {K : PySem.W.Frag} {H : Hp} : ∀ (l : List Nat) (m : Int), RpA K H (l.map fun i => V.int (m + (i : Nat))) (l.map fun (i : Nat) => PyData.int (m + (i : Int)))
  | [], _ => .nil
  | i :: l, m => .cons (.int _) (rgV_rp l m)
theorem ppf_lr (hm : X.mg "range" = none) (hml : X.mg "list" = none) (ha : PPE X W a f) (hb : PPE X W b g) (hc : X.calm = true := by rfl) (hg : Gl X "range" := by rfl) (hgl : Gl X "list" := by rfl)
    (na : starEach [a, b] X.env = (false, eval a X.env) :: starEach [b] X.env := by rfl) (nb : starEach [b] X.env = (false, eval b X.env) :: starEach [] X.env := by rfl) (hp : (backTo p2 (starEach [b] X.env)).any (·.1) = false := by rfl)
    (nl : starEach [.Call (.Name "range" p) [a, b] [] p2] X.env = (false, eval (.Call (.Name "range" p) [a, b] [] p2) X.env) :: starEach [] X.env := by rfl) {p3 : Pos} :
    PPF X W (.Call (.Name "list" p3) [.Call (.Name "range" p) [a, b] [] p2] [] pos) (bLR f g) := by
  obtain ⟨ta, pa, ha⟩ := ha.out
  obtain ⟨tb, pb, hb⟩ := hb.out
  refine ⟨_, pe_listRg hc hgl hml (prg_2 hg hm pa pb na nb hp) nl, fun e σ H Hs Q s hp => ?_⟩
  have an : ∀ H0 H1, Same H0 H1 → ∀ H' Hs' v xs, RepF X.K H1 H' Hs' v xs → RepF X.K H0 H' Hs' v xs := fun H0 H1 s1 H' Hs' v xs ⟨p, vs, h1, h2, h3⟩ => ⟨p, vs, h1, s1.free h2, h3⟩
  refine ha e σ H Hs _ s (Post.bind (Rep2 := RepF X.K) hp (an H) fun d1 x H1 Hs1 _ g1 r1 hp1 => ?_)
  refine hb e σ H1 Hs1 _ (s.grow g1) (Post.bind (Rep2 := RepF X.K) hp1 (an H1) fun d2 y H2 Hs2 _ g2 r2 hp2 => ?_)
  obtain ⟨m, rfl⟩ : ∃ z, d1 = .int z := by
    cases d1 <;> first
      | exact (show False from hp2).elim
      | exact ⟨_, rfl⟩
  obtain ⟨n, rfl⟩ : ∃ z, d2 = .int z := by
    cases d2 <;> first
      | exact (show False from hp2).elim
      | exact ⟨_, rfl⟩
  cases r1
  cases r2
  have hp3 : Post X W σ H2 Hs2 (RepF X.K) (if smI m && smI n && decide ((n - m).toNat ≤ szL) then R.ok (rng m n) else .stk) Q := hp2
  split at hp3
  · rename_i hn
    simp only [Bool.and_eq_true, decide_eq_true_eq] at hn
    obtain ⟨h1, h2⟩ := smI_ok hn.1.1
    obtain ⟨h3, h4⟩ := smI_ok hn.1.2
    refine ⟨m, n, rfl, rfl, ⟨h1, h2, h3, h4, hn.2⟩, fun q hq => hp3 _ _ _ (Grow.gar g2.sub hq) ⟨q, _, rfl, hq, upd_same, g2.sub.free hq, rgV_rp _ _⟩⟩
  · exact (show False from hp3).elim
end

/-! ### a def by its name -/
structure Cal (P : Program) (w : World) (K : PySem.W.Frag) (mg : Str → Option Value) (base : Heap) (x : Str) (ps : List Str) (k : Nat) (m : List D → R D) : Prop where
  ex : ∃ f fd, FnP P w K mg base k f fd ps m ∧ mg x = some (.ref f) ∧ PySem.W.keepIn K (.ref f) = true ∧ Binds K fd ps []
section
variable {X : Cx} {W : WX} {a : Expr} {es : List Expr} {fs : LF} {x : Str} {ps : List Str} {k j : Nat} {m : List D → R D} {p pos : Pos}
theorem ppe_cal (C : Cal X.prog X.w X.K X.mg X.base x ps k m) (hr : Room j X.A) (tk : Takes X W) (ha : PPA X W (a :: es) fs) (hj : k ≤ j := by decide)
    (hl : (a :: es).length = ps.length := by rfl) (hg : Gl X x := by rfl) (hdb : (x == ("__debug__" : Str)) = false := by decide)
    (he : starEach (a :: es) X.env = (false, eval a X.env) :: starEach es X.env := by rfl) (hpl : (backTo pos (starEach es X.env)).any (·.1) = false := by rfl) : PPE X W (.Call (.Name x p) (a :: es) [] pos) (eC m fs) := by
  obtain ⟨f, fd, F, hm, hk, hb⟩ := C.ex
  exact ppe_call F (hr.mono hj) hm hk hb tk ha hl hg hdb he hpl
theorem ppe_calL (C : Cal X.prog X.w X.K X.mg X.base x ps k m) (hr : Room j X.A) (tk : Takes X W) (ha : PPBA X W (a :: es) fs) (hn : ∀ e ds, fs e = .ok ds → ds.length = ps.length) (hj : k ≤ j := by decide)
    (hg : Gl X x := by rfl) (hdb : (x == ("__debug__" : Str)) = false := by decide)
    (he : starEach (a :: es) X.env = (false, eval a X.env) :: starEach es X.env := by rfl) (hpl : (backTo pos (starEach es X.env)).any (·.1) = false := by rfl) : PPE X W (.Call (.Name x p) (a :: es) [] pos) (eCb m fs) := by
  obtain ⟨f, fd, F, hm, hk, hb⟩ := C.ex
  exact ppe_callL F (hr.mono hj) hm hk hb tk ha hn hg hdb he hpl
end
end PL

namespace PL
open PySem PySem.Spec PyProof.Rows L2

/-! ### exceptions: the class asked of one that a suite holds -/
section
variable {X : Cx} {W : WX} {pos : Pos} {p : Pos}
theorem ppe_isE {q : Addr × Obj} {Dc : Addr} {b : Bool} {x c n : Str} {pn pc : Pos} {cv : V} {cu : Value} (i : Nat) (EC : ExcC X.K Dc) (hp : q ∈ X.pn) (hz : Zc (.ref Dc) none q.2) (hf : ∃ vs, q.2.data = .fields vs)
    (hm : X.mg x = none) (hv : bootBuiltins x = some (.builtin "isinstance")) (hC : PE X (.Name c pc) (tC cv)) (hcv : ∀ u, RelV cv u → u = cu) (hk : PySem.W.kitOne X.K (.ref Dc) cu = some b)
    (hN : X.N[i]? = some n := by rfl) (hvn : Vis X.env.scope n := by first | exact Or.inl rfl | exact Or.inr (Or.inl rfl) | exact Or.inr (Or.inr rfl))
    (hg : Gl X x := by rfl) (hn : x ≠ "__name__" := by decide) (hdb : (x == ("__debug__" : Str)) = false := by decide) (hd : (n == ("__debug__" : Str)) = false := by decide) (hcd : (n == ("__classdict__" : Str)) = false := by decide)
    (he : starEach [.Name n pn, .Name c pc] X.env = (false, eval (.Name n pn) X.env) :: starEach [.Name c pc] X.env := by rfl) (he2 : starEach [.Name c pc] X.env = (false, eval (.Name c pc) X.env) :: starEach [] X.env := by rfl)
    (hpl : (backTo pos (starEach [.Name c pc] X.env)).any (·.1) = false := by rfl) : PPE X W (.Call (.Name x p) [.Name n pn, .Name c pc] [] pos) (e1 (isAdr q.1 b) (eV i)) := by
  have call : CallR X (.builtin "isinstance") (fun xs H Q => ∃ (c : V) (cv : Value) (b : Bool), xs = [.ref q.1, c] ∧ (∀ u, RelV c u → u = cv) ∧ PySem.W.kitOne X.K (.ref Dc) cv = some b ∧ Q (.bl b) H) := by
    intro pins s σ H xs us Q I r h
    obtain ⟨c, cv, b, rfl, hcv, e, q1⟩ := h
    cases r with
    | cons rx rr =>
      cases rr with
      | cons rt rr =>
        cases rr
        cases rx
        have ec := hcv _ rt
        subst ec
        obtain ⟨hget, _⟩ := I.pin q (List.mem_append.mpr (.inl hp))
        obtain ⟨vs, hv⟩ := hf
        have J : PySem.W.InstAt s.heap q.1 q.2 Dc none := by
          obtain ⟨a, oc, od, oda, osl⟩ := q
          obtain ⟨h1, h2⟩ := hz
          dsimp only at h1 h2 hv
          subst h1 h2 hv
          exact ⟨hget, rfl, rfl, trivial⟩
        exact PySem.W.kia_one (PySem.W.handS_kitx_exc EC.hg EC.hk EC.hs EC.hd EC.ha EC.hn EC.ht EC.hm) I.kIn J e (fun z => nomatch z) fun tk => ⟨.bl b, H, I.kept (t' := tk) fun _ _ z => z, rfl, q1⟩
  obtain ⟨ta, pa, ha⟩ := (ppe_v (X := X) (W := W) i (pos := pn) hN hvn hd hcd).out
  refine ⟨_, pe_callB call hg hm hv (pa_cons pa (pa_cons hC pa_nil he2) he) hn hdb he hpl, fun e σ H Hs Q s hp => ?_⟩
  refine ha e σ H Hs _ s (Post.bind (Rep2 := RepE X.K) hp anE fun d1 v H1 Hs1 _ g1 r1 hp1 => ?_)
  unfold isAdr at hp1
  split at hp1
  · rename_i n
    split at hp1
    · rename_i hn
      subst hn
      cases r1 with
      | adr a => exact ⟨cv, cu, b, rfl, hcv, hk, hp1 _ H1 Hs1 (Grow.refl g1.sub) (.bl b)⟩
    · exact (show False from hp1).elim
  · exact (show False from hp1).elim

/-! ### a def that is called in an except suite with the exception, an object of class Dc -/
def FnX (P : Program) (w : World) (K : PySem.W.Frag) (mg : Str → Option Value) (base : Heap) (k : Nat) (f : Addr) (fd : FuncData) (ps : List Str) (Dc : Addr) (res : Str) : Prop :=
  ∀ (A : Around) (outer : List PySem.Env) (s : Shared) (H : Hp) (args : Args) (Q : VK) (p : Addr × Obj), L2H.RoomH k A → L2H.PinOk outer H s p → Zc (.ref Dc) none p.2 → (∃ vs, p.2.data = .fields vs) → Env0 P w K mg base A outer s H → BindsTo s fd args (ps.zip [.ref p.1]) →
    (∀ H', Same H H' → Q (.str res) H') → codeAny (model P w) A (.call (.ref f) args) (CR (L2.CX P w) outer P w H s Q fun _ _ _ => False) s
theorem fnX_of {P : Program} {w : World} {K : PySem.W.Frag} {mg : Str → Option Value} {base : Heap} {k : Nat} {x qual : Str} {st : Stmt} {f : Addr} {fd : FuncData} {N : List Str} {n : Str} {Dc : Addr} {res : Str} (F : Fun K x qual st f fd) (S : FnScope N [n] (defScope st))
    (hbody : ∀ (cdv : Value) (A : Around) (outer : List PySem.Env) (s : Shared) (H : Hp) (E : XK) (p : Addr × Obj), Zc (.ref Dc) none p.2 → (∃ vs, p.2.data = .fields vs) → ∃ b : SF, PPSs (L2H.cxH (L2.CX P w) P w K mg base N qual (defScope st) f cdv A outer s H E p) noW (RepE K) (defBody st) b ∧
      b (.sh (adr p.1) :: List.replicate (N.length - 1) .no) = .ret (.str res)) :
    FnX P w K mg base (k + 1) f fd [n] Dc res := by
  obtain ⟨⟨oc, od, kV, doc, pm, an, cdv, ct, osl, rfl, lk, hcd⟩, kf⟩ := F
  intro A outer s H args Q p hr hpin hz hf e0 hb hq
  have KX : K.In s.heap := e0.mod.kin.keeps fun b o e => (e0.bs b o e).1
  have lim : s.heap.NoLimit := e0.mod.nolimit.keeps fun b o e => (e0.bs b o e).1
  have hkind : ∀ y ∈ [n].zip [Value.ref p.1], (defScope st).names.lookup y.1 = some .local ∨ ((defScope st).names.lookup y.1 = some .cell ∧ ((cellsFrom (s.heap.objs.size + 1) (defScope st).names []).lookup y.1).isSome = true) := fun ⟨n', v⟩ hy => by
    rcases S.par n' (List.of_mem_zip hy).1 with q | q
    · exact .inl q
    · exact .inr ⟨q, PySem.W.cellsFrom_some _ _ _ (.inl q)⟩
  refine codeAny_call_function hr.depth (KX _ _ lk) rfl S.co S.gen rfl (PySem.W.codeRec_of KX hcd) (hb _ _ _ _ ?_)
  refine wpAny_newFunctionEnv_cells S.kind hkind fun env he s1 x => ?_
  subst he
  refine ⟨lim.keeps x.toInCall.keep, codeAny_func ?_⟩
  obtain ⟨b, ⟨t, ht, hR⟩, hres⟩ := hbody cdv A outer s H (fun _ _ _ => False) p hz hf
  have hlen : 1 ≤ N.length := by have := congrArg List.length S.pre; rw [List.length_take] at this; simp at this; omega
  have I : Inv (L2H.cxH (L2.CX P w) P w K mg base N qual (defScope st) f cdv A outer s H (fun _ _ _ => False) p) [] (L2.start N [.ref p.1]) H s1 := L2H.inv_startH S hpin e0 rfl (.cons rfl .nil) x
  have hT : t { nx := fun _ H' => Q .non H', rt := Q } (L2.start N [.ref p.1]) H := by
    refine hR (.sh (adr p.1) :: List.replicate (N.length - 1) .no) (L2.start N [.ref p.1]) H (fun _ => none) H (fun _ => none) _ ⟨Grow.refl (fun _ _ e => by cases e), ⟨(fun _ _ e => by cases e), ?_, fun i d hi => ?_, fun i xs hi => ?_, fun i j xs ys q h1 h2 h3 h4 => ?_⟩, fun i xs q h1 h2 => ?_⟩ ?_
    · unfold L2.start
      rw [List.length_append, List.length_map, List.length_replicate, List.length_cons, List.length_replicate]
      simp
      omega
    · cases i with
      | zero => cases hi; exact ⟨.ref p.1, rfl, .adr p.1⟩
      | succ i => rw [List.getElem?_cons_succ] at hi; exact absurd hi replicate_no
    · cases i with
      | zero => cases hi
      | succ i => rw [List.getElem?_cons_succ] at hi; exact absurd hi replicate_no'
    · cases i with
      | zero => cases h1
      | succ i => rw [List.getElem?_cons_succ] at h1; exact absurd h1 replicate_no'
    · cases i with
      | zero => cases h1
      | succ i => rw [List.getElem?_cons_succ] at h1; exact absurd h1 replicate_no'
    · rw [hres]
      intro v H' Hs' g rt
      cases rt
      exact hq H' g.all
  refine wpAny_mono (ht.run [] s1 (L2.start N [.ref p.1]) H _ I hT) (fun fl s' hs => ?_) fun e s' hs => hs
  have fin : ∀ {σ' : St} {H' : Hp} {v : V} {u : Value}, Inv (L2H.cxH (L2.CX P w) P w K mg base N qual (defScope st) f cdv A outer s H (fun _ _ _ => False) p) [] σ' H' s' → RelV v u → Q v H' → CE outer P w H s Q u s' :=
    fun {σ' H' v u} J rv q => ⟨v, H', J.os, J.bare, J.base, J.hok, rv, q⟩
  cases fl with
  | ret u =>
    obtain ⟨v, σ', H', J, rv, q⟩ := hs
    exact fin J rv q
  | next =>
    obtain ⟨σ', H', J, q⟩ := hs
    exact fin (v := V.non) (u := Value.none) J rfl q
  | brk =>
    obtain ⟨_, _, _, q⟩ := hs
    exact False.elim q
  | cont =>
    obtain ⟨_, _, _, q⟩ := hs
    exact False.elim q
end

/-! ### try: body, except LoopError as error: return name_of(error) -/
section
variable {X : Cx} {W : WX} {pos p : Pos}
/-- what the classes' names tell: raised class c, name_of's word -/
structure CalX (P : Program) (w : World) (K : PySem.W.Frag) (mg : Str → Option Value) (base : Heap) (x : Str) (k : Nat) (L : Addr) (nm : Str → Option Str) : Prop where
  ex : ∃ f fd n, mg x = some (.ref f) ∧ PySem.W.keepIn K (.ref f) = true ∧ Binds K fd [n] [] ∧ ∀ c z, nm c = some z → ∃ Dc, clsV mg c = .ref Dc ∧ PySem.W.exmOne K (.ref Dc) (.ref L) = some true ∧ FnX P w K mg base k f fd [n] Dc z
theorem pps_try {body : List Stmt} {b : SF} {nm : Str → Option Str} {x lx n : Str} {L : Addr} {k j : Nat} {py np pos' pr pc pf : Pos} (i : Nat) (C : CalX X.prog X.w X.K X.mg X.base x k L nm) (hr : Room j X.A) (gL : X.mg lx = some (.ref L))
    (hb : ∀ (W : WX) (pn : List (Addr × Obj)) (xe : Value → Shared → Prop), Takes (X.tr pn xe) W → PassesOwn (model X.prog X.w) X.A X.env xe → PPSs (X.tr pn xe) W (RepE X.K) body b)
    (hN : X.N.Nodup) (hj : k ≤ j := by decide) (hs : X.stack = X.env :: X.outer := by rfl) (hf : X.env.frame = some X.env.locals := by rfl) (hi : X.N[i]? = some n := by rfl) (hln : X.env.kindOf n = some .local := by rfl) (hgL : Gl X lx := by rfl) (hdL : (lx == ("__debug__" : Str)) = false := by decide)
    (hg : Gl X x := by rfl) (hdb : (x == ("__debug__" : Str)) = false := by decide) (hd : (n == ("__debug__" : Str)) = false := by decide) (hcd : (n == ("__classdict__" : Str)) = false := by decide) (hvn : Vis X.env.scope n := by exact Or.inl rfl)
    (he : starEach [.Name n py] X.env = (false, eval (.Name n py) X.env) :: starEach [] X.env := by rfl) (hpl : (backTo pf (starEach [] X.env)).any (·.1) = false := by rfl) :
    PPS X W (RepE X.K) (.Try body [.ExceptHandler (some (.Name lx np)) (some n) [.Return (some (.Call (.Name x pc) [.Name n py] [] pf)) pr] pos'] [] [] pos) (sTry b nm) := by
  obtain ⟨f, fd, nn, hm, hk, hbn, hC⟩ := C.ex
  let ts : Addr → Value → Option Addr → TS := fun a cls d => tRet (fun σ H Q => (i < σ.length → σ[i]? = some (some (.ref a))) ∧ ∃ Dc z, cls = .ref Dc ∧ d = none ∧ FnX X.prog X.w X.K X.mg X.base k f fd [nn] Dc z ∧ ∀ H', Same H H' → Q (.str z) H')
  refine ⟨_, ps_try_as (tb := fun W D σ H => ∀ pn xe (h1 : Takes (X.tr pn xe) W) (h2 : PassesOwn (model X.prog X.w) X.A X.env xe), Classical.choose (hb W pn xe h1 h2).out D σ H) (ts := ts) (Wout := fun _ _ _ _ => False) hs hf hN hi hln ⟨hgL, hdL, .inl gL⟩ takes0 (fun W pn xe tk po => ?_) (fun a oe cls d pn hz hf2 => ?_), fun e σ H Hs H0 Hb Dn s hp => ?_⟩
  · exact ⟨fun pins s σ H D I h => (Classical.choose_spec (hb W pn xe tk po).out).1.run pins s σ H D I (h pn xe tk po)⟩
  · refine pss_one (ps_ret ⟨fun pins s σ H Q I h => ?_⟩)
    obtain ⟨h1', Dc, z, rfl, rfl, FX, hq⟩ := h
    have h1 : σ[i]? = some (some (.ref a)) := h1' (by
      have hi' := (List.getElem?_eq_some_iff.mp hi).1
      have hl : σ.length = X.N.length := I.len
      omega)
    refine wpAny_Call_Name_kw (ld_glob I hg hm ?_ hdb)
    have ha : PA (X.suite a ((a, oe) :: pn)) [.Name n py] (tCons (tVar i) tNil) := pa_cons (pe_var hi hvn hd hcd) pa_nil he
    have hA : tCons (tVar i) tNil σ H (fun vs H1 => vs = [.ref a] ∧ H1 = H) := ⟨_, h1, rfl, rfl⟩
    refine PySem.W.callWith_K (h₀ := X.base) I.ok.mod.kin hk (thn (ha.run pf pins s σ H _ I hA) fun us s1 ⟨vs, H1, I1, r, q⟩ => ⟨I1.kIn, ?_⟩) he hpl
    obtain ⟨rfl, rfl⟩ := q
    have hl : us.length = 1 := by rw [← r.length]; rfl
    have bb := hbn s1 us I1.kIn (by rw [List.append_nil]; exact hl)
    rw [List.append_nil] at bb
    have P1 := I1.pin (a, oe) (List.mem_append_left _ List.mem_cons_self)
    have hpin : L2H.PinOk (X.suite a ((a, oe) :: pn)).stack H1 s1 (a, oe) := ⟨P1.1, P1.2.1, fun hm => (List.mem_cons.mp (I1.stkSub a hm)).elim P1.2.2.1 P1.2.2.2.1, P1.2.2.2.2⟩
    have eus : us = [.ref a] := by
      cases r with
      | cons rx rr => cases rr; cases rx; rfl
    subst eus
    have hrH : L2H.RoomH k (X.suite a ((a, oe) :: pn)).A := ⟨by have := (hr.mono hj).dp; exact this, by have := (hr.mono hj).un; exact this⟩
    refine wpAny_call (codeAny_mono (FX _ _ s1 H1 ⟨[.ref a], []⟩ Q (a, oe) hrH hpin hz hf2 I1.env0 bb hq) fun r s' hq => ?_)
    cases r with
    | error e => exact passAt (X := X.suite a ((a, oe) :: pn)) (W := fun _ _ _ _ => False) takes0 σ pins H1 s1 e s' I1 hq
    | ok fl =>
      cases fl with
      | ret u => exact I1.after hq
      | next => exact False.elim hq
      | brk => exact False.elim hq
      | cont => exact False.elim hq
  · intro pn xe h1 h2
    refine (Classical.choose_spec (hb _ pn xe h1 h2).out).2 e σ H Hs H0 Hb Dn s ?_
    unfold sTry at hp
    cases e1 : b e with
    | next e' => rw [e1] at hp; exact hp
    | ret d => rw [e1] at hp; exact hp
    | brk d => rw [e1] at hp; exact hp
    | cont d => rw [e1] at hp; exact hp
    | stk => rw [e1] at hp; exact hp
    | err c =>
      rw [e1] at hp
      dsimp only at hp
      cases e2 : nm c with
      | none => rw [e2] at hp; exact hp.elim
      | some z =>
        rw [e2] at hp
        obtain ⟨Dc, e3, e4, FX⟩ := hC c z e2
        intro σ' H' sm sb
        refine ⟨true, ?_, fun _ a na => ?_, fun q => nomatch q⟩
        · show PySem.W.exmOne X.K (clsV X.mg c) (.ref L) = some true
          rw [e3]; exact e4
        · refine ⟨fun hl => ?_, Dc, z, e3, rfl, FX, fun H'' sm' => hp _ H'' Hb ⟨sm.trans sm', Same.refl _, sb.trans sm', fun _ _ _ h => h⟩ (.str z)⟩
          · rw [List.length_set] at hl
            rw [List.getElem?_set_self hl]
end
end PL

namespace PL
open PySem PySem.Spec PyProof.Rows L2
theorem boot_isi : bootBuiltins "isinstance" = some (.builtin "isinstance") := by decide +kernel
theorem boot_abs : bootBuiltins "abs" = some (.builtin "abs") := by decide +kernel
theorem boot_sum : bootBuiltins "sum" = some (.builtin "sum") := by decide +kernel
theorem boot_all : bootBuiltins "all" = some (.builtin "all") := by decide +kernel
theorem boot_max : bootBuiltins "max" = some (.builtin "max") := by decide +kernel
theorem boot_min : bootBuiltins "min" = some (.builtin "min") := by decide +kernel
theorem boot_int : bootBuiltins "int" = some (.type "int") := by decide +kernel
theorem boot_bool : bootBuiltins "bool" = some (.type "bool") := by decide +kernel
theorem boot_str : bootBuiltins "str" = some (.type "str") := by decide +kernel
theorem boot_list : bootBuiltins "list" = some (.type "list") := by decide +kernel
theorem boot_tuple : bootBuiltins "tuple" = some (.type "tuple") := by decide +kernel
theorem boot_ValueError : bootBuiltins "ValueError" = some (.type "ValueError") := by decide +kernel
/-- what the text says of an own class of errors -/
structure ExcF (K : PySem.W.Frag) (mg : Str → Option Value) (c : Str) (C : Addr) : Prop where
  xi : PySem.W.excIn K C [.type "ValueError", .type "Exception", .type "BaseException", .type "object"] "ValueError.__new__" = true
  gC : mg c = some (.ref C)
  kC : PySem.W.keepIn K (.ref C) = true
  bC : PySem.W.subIn K (.ref C) (.type "BaseException") = some true
  tC : PySem.W.typeIn K (.ref C) = some (.type "type")
  iC : PySem.W.isClsIn K C = true
  vC : PySem.W.subIn K (.ref C) (.type "ValueError") = some true
theorem kit_self {K : PySem.W.Frag} {C : Addr} : PySem.W.kitOne K (.ref C) (.ref C) = some true := by
  unfold PySem.W.kitOne
  rw [if_pos (by simp)]
theorem kit_sub {K : PySem.W.Frag} {mg : Str → Option Value} {c : Str} {C : Addr} {Dc : Addr} {b : Bool} (F : ExcF K mg c C) (h : PySem.W.subIn K (.ref Dc) (.ref C) = some b) (n : (Value.ref Dc == Value.ref C) = false) : PySem.W.kitOne K (.ref Dc) (.ref C) = some b := by
  unfold PySem.W.kitOne
  rw [n, if_neg Bool.false_ne_true]
  unfold PySem.W.kitCls
  have h2' : (PySem.W.clsIn K C).isSome = true := F.iC
  have e2 : ((PySem.W.clsIn K C).isSome && PySem.W.typeIn K (.ref C) == some (.type "type")) = true := by rw [h2', F.tC] <;> rfl
  dsimp only
  rw [if_pos e2]
  exact h
theorem kit_val {K : PySem.W.Frag} {mg : Str → Option Value} {c : Str} {C : Addr} (F : ExcF K mg c C) : PySem.W.kitOne K (.ref C) (.type "ValueError") = some true := by
  unfold PySem.W.kitOne
  have n : (Value.ref C == Value.type "ValueError") = false := rfl
  rw [n, if_neg Bool.false_ne_true]
  unfold PySem.W.kitCls
  dsimp only
  rw [if_pos (by decide +kernel)]
  exact F.vC
theorem exm_sub {K : PySem.W.Frag} {mg : Str → Option Value} {c : Str} {C : Addr} {Dc : Addr} {b : Bool} (F : ExcF K mg c C) (h : PySem.W.subIn K (.ref Dc) (.ref C) = some b) : PySem.W.exmOne K (.ref Dc) (.ref C) = some b := by
  have e1 : (PySem.W.subIn K (.ref C) (.type "BaseException") == some true) = true := by rw [F.bC] <;> rfl
  have e2 : ((PySem.W.clsIn K C).isSome && PySem.W.typeIn K (.ref C) == some (.type "type")) = true := by
    have h2' : (PySem.W.clsIn K C).isSome = true := F.iC
    rw [h2', F.tC] <;> rfl
  show (if (PySem.W.subIn K (.ref C) (.type "BaseException") == some true) = true then (if ((PySem.W.clsIn K C).isSome && PySem.W.typeIn K (.ref C) == some (.type "type")) = true then PySem.W.subIn K (.ref Dc) (.ref C) else none) else none) = some b
  rw [if_pos e1, if_pos e2]
  exact h
theorem fnP_stk {P : Program} {w : World} {K : PySem.W.Frag} {mg : Str → Option Value} {base : Heap} {k : Nat} {f : Addr} {fd : FuncData} {ps : List Str} : FnP P w K mg base k f fd ps (fun _ => .stk) :=
  ⟨fun vs H Q E h => by obtain ⟨_, _, _, _, _, h⟩ := h; exact h.elim, fun A outer s H args us vs Q E _ _ _ _ h => by obtain ⟨_, _, _, _, _, h⟩ := h; exact h.elim⟩
theorem cx_no {P : Program} {w : World} {o : List PySem.Env} {H : Hp} {s : Shared} {e : Value} {s' : Shared} (h : L2.CX P w o H s (fun _ _ _ => False) e s') : False := by
  obtain ⟨_, _, _, _, _, _, _, _, _, _, _, _, h⟩ := h
  exact h
/-- the law's promise -/
def spLaw (K : PySem.W.Frag) : Sp := fun vs H Q _ => ∃ (a : Addr) (ns : List Int), vs = [.ref a] ∧ SqL K H a (ns.map V.int) ∧ ns.length ≤ 63 ∧ (∀ z ∈ ns, Builtin.Int.intBits z ≤ 1048576) ∧ ∀ H', Q (.bl true) H'
theorem ints_rp {K : PySem.W.Frag} {H : Hp} : ∀ ns : List Int, RpA K H (ns.map V.int) (ns.map PyData.int)
  | [] => .nil
  | i :: ns => .cons (.int i) (ints_rp ns)
theorem spLaw_of {K : PySem.W.Frag} {mg : Str → Option Value} {m : List D → R D} (h : ∀ ns : List Int, ns.length ≤ 63 → (∀ z ∈ ns, Builtin.Int.intBits z ≤ 1048576) → m [scr (ns.map .int)] = .ok (.bool true)) :
    ∀ vs H Q E, spLaw K vs H Q E → pureSp K mg 1 m vs H Q E := by
  rintro vs H Q E ⟨a, ns, rfl, hS, hl, hb, hq⟩
  refine ⟨H, [scr (ns.map .int)], Same.refl _, .cons (.scr hS (ints_rp ns)) .nil, rfl, ?_⟩
  rw [h ns hl hb]
  intro v H' Hs' _ r
  cases r
  exact hq H'
end PL

namespace PL
open PySem PySem.Spec PyProof.Rows L2
/-! ### a def that hands back a list that is nobody else's, or None and the like -/
abbrev RepN (K : PySem.W.Frag) : Hp → Hp → Hp → V → D → Prop := fun H H' Hs' v d => (isSc d = true ∧ Rp K Hs' v d) ∨ ∃ xs, d = .list xs ∧ RepF K H H' Hs' v xs
theorem RepN.at {K : PySem.W.Frag} {H H1 H' Hs' : Hp} {v : V} {d : D} (s : Same H H1) (r : RepN K H1 H' Hs' v d) : RepN K H H' Hs' v d := by
  rcases r with r | ⟨xs, e, p, vs, h0, h1, h2⟩
  · exact .inl r
  · exact .inr ⟨xs, e, p, vs, h0, s.free h1, h2⟩
structure PPN (X : Cx) (W : WX) (ex : Expr) (f : EF) : Prop where
  out : ∃ t : TE, PE X ex t ∧ ∀ e σ H Hs Q, SR X.K e σ H Hs → Post X W σ H Hs (RepN X.K) (f e) Q → t σ H Q
def pureSpN (K : PySem.W.Frag) (mg : Str → Option Value) (n : Nat) (m : List D → R D) : Sp := fun vs H Q E => ∃ Hs ds, Same Hs H ∧ RpA K Hs vs ds ∧ ds.length = n ∧
  (match m ds with
    | .ok d => ∀ v H' Hs', Grow H Hs H' Hs' → RepN K H H' Hs' v d → Q v H'
    | .err c => ∀ H', Same H H' → E (clsV mg c) none H'
    | .stk => False)
abbrev FnN (P : Program) (w : World) (K : PySem.W.Frag) (mg : Str → Option Value) (base : Heap) (k : Nat) (f : Addr) (fd : FuncData) (ps : List Str) (m : List D → R D) : Prop :=
  FnOk P w K mg base (L2.CX P w) k f fd ps (pureSpN K mg ps.length m)
structure CalN (P : Program) (w : World) (K : PySem.W.Frag) (mg : Str → Option Value) (base : Heap) (x : Str) (ps : List Str) (k : Nat) (m : List D → R D) : Prop where
  ex : ∃ f fd, FnN P w K mg base k f fd ps m ∧ mg x = some (.ref f) ∧ PySem.W.keepIn K (.ref f) = true ∧ Binds K fd ps []
theorem frzG {K : PySem.W.Frag} {H Hs H' Hs' : Hp} {v : V} {d : D} (g : Grow H Hs H' Hs') (r : RepN K H H' Hs' v d) : ∃ Hs2, Grow H Hs H' Hs2 ∧ Rp K Hs2 v d := by
  rcases r with ⟨_, r⟩ | ⟨xs, rfl, p, vs, rfl, n1, h1, n2, r⟩
  · exact ⟨Hs', g, r⟩
  · have s2 : Same (upd Hs' p (.lst vs)) H' := fun b o hb => by
      by_cases q : b = p
      · subst q; rw [upd_same] at hb; cases hb; exact h1
      · rw [upd_ne q] at hb; exact g.sub _ _ hb
    refine ⟨upd Hs' p (.lst vs), ⟨g.all, g.sh.trans (same_upd n2), s2, fun b o hb nb => ?_⟩, .lst upd_same (r.up (same_upd n2))⟩
    rw [upd_ne (ne_of_none hb n1)]
    exact g.own b o hb nb
theorem CalN.cal {P : Program} {w : World} {K : PySem.W.Frag} {mg : Str → Option Value} {base : Heap} {x : Str} {ps : List Str} {k : Nat} {m : List D → R D} (C : CalN P w K mg base x ps k m) : Cal P w K mg base x ps k m := by
  obtain ⟨f, fd, F, h⟩ := C.ex
  refine ⟨f, fd, F.imp fun vs H Q E q => ?_, h⟩
  obtain ⟨Hs, ds, q1, q2, q3, q4⟩ := q
  refine ⟨Hs, ds, q1, q2, q3, ?_⟩
  cases e : m ds with
  | ok d =>
    rw [e] at q4
    intro v H' Hs' g r
    obtain ⟨Hs2, g2, r2⟩ := frzG g r
    exact q4 v H' Hs2 g2 r2
  | err c => rw [e] at q4; exact q4
  | stk => rw [e] at q4; exact q4
section
variable {X : Cx} {W : WX} {ex : Expr} {f : EF} {l : LF} {x : Str} {pos pos' p : Pos}
theorem ppn_f (h : PPF X W ex l) : PPN X W ex (eL l) := by
  obtain ⟨t, p, h⟩ := h.out
  refine ⟨t, p, fun e σ H Hs Q s hp => h e σ H Hs Q s ?_⟩
  unfold eL at hp
  cases e1 : l e with
  | err c => rw [e1] at hp; exact hp
  | stk => rw [e1] at hp; exact hp
  | ok xs => rw [e1] at hp; exact fun v H' Hs' g r => hp v H' Hs' g (.inr ⟨xs, rfl, r⟩)
theorem ppn_non {j} : PPN X W (.Constant .none j pos) (eK .none) := ⟨_, pe_non, fun e σ H Hs Q s hp => hp .non H Hs (Grow.refl s.sub) (.inl ⟨rfl, .non⟩)⟩
theorem ppn_bl {i : Bool} {j} : PPN X W (.Constant (.bool i) j pos) (eK (.bool i)) := ⟨_, pe_bl, fun e σ H Hs Q s hp => hp (.bl i) H Hs (Grow.refl s.sub) (.inl ⟨rfl, .bl i⟩)⟩
theorem ppn_cal {a : Expr} {es : List Expr} {fs : LF} {ps : List Str} {k j : Nat} {m : List D → R D} (C : CalN X.prog X.w X.K X.mg X.base x ps k m) (hr : Room j X.A) (tk : Takes X W) (ha : PPA X W (a :: es) fs) (hj : k ≤ j := by decide)
    (hl : (a :: es).length = ps.length := by rfl) (hg : Gl X x := by rfl) (hdb : (x == ("__debug__" : Str)) = false := by decide)
    (he : starEach (a :: es) X.env = (false, eval a X.env) :: starEach es X.env := by rfl) (hpl : (backTo pos (starEach es X.env)).any (·.1) = false := by rfl) : PPN X W (.Call (.Name x p) (a :: es) [] pos) (eC m fs) := by
  obtain ⟨f, fd, F, hm, hk, hb⟩ := C.ex
  have hA := ha
  obtain ⟨⟨ta, pa, ha⟩, _⟩ := ha
  refine ⟨_, pe_callS F (hr.mono hj) hg hm hk hb (passAt tk) pa hdb he hpl, fun e σ H Hs Q s hp => ?_⟩
  refine ha e σ H Hs _ s (Post.bind (Rep2 := RepN X.K) hp (fun H1 s1 H' Hs' v d r => RepN.at s1 r) fun d1 vs H1 Hs1 hd g1 r1 hp1 => ?_)
  refine ⟨Hs1, d1, g1.sub, r1, by rw [hA.len e d1 hd]; exact hl, ?_⟩
  cases e2 : m d1 with
  | ok d => rw [e2] at hp1; exact hp1
  | err c => rw [e2] at hp1; exact hp1
  | stk => rw [e2] at hp1; exact hp1
theorem pps_retN (ha : PPN X W ex f) : PPS X W (RepN X.K) (.Return (some ex) pos) (sRet f) := by
  obtain ⟨ta, pa, ha⟩ := ha.out
  refine ⟨_, ps_ret pa, fun e σ H Hs H0 Hb Dn s hp => ?_⟩
  exact ha e σ H Hs _ s.sr (postS_bind s hp fun d v H1 Hs1 _ g1 s1 r1 hp1 => hp1 v H1 Hs1 s1.gr (RepN.at s.gr.all r1))
theorem pps_setN (i : Nat) (hN : X.N.Nodup) (ha : PPN X W ex f) {RT : RTT} (hx : Loc X.env.scope x := by first | exact Or.inl rfl | exact Or.inr rfl) (hi : X.N[i]? = some x := by rfl) (hs : swapsWith ex (some (.Name x pos')) pos.line X.env = pure false := by rfl)
    (hf : X.fn x = true ∨ X.env.scope.names.lookup x = some .local := by first | exact .inl rfl | exact .inr rfl) : PPS X W RT (.Assign [.Name x pos'] ex pos) (sSetN i f) := by
  obtain ⟨ta, pa, ha⟩ := ha.out
  refine ⟨_, ps_set hN hi hx pa hs hf, fun e σ H Hs H0 Hb Dn s hp => ?_⟩
  refine ha e σ H Hs _ s.sr (postS_bind s hp fun d v H1 Hs1 _ g1 s1 r1 hp1 => ?_)
  rcases r1 with ⟨hsc, r1⟩ | ⟨xs, rfl, p, vs, rfl, n1, h1, n2, r⟩
  · have e2 : svN d = .sh d := by
      cases d <;> first | rfl | (exact absurd (show false = true from hsc) Bool.false_ne_true)
    rw [e2] at hp1
    exact hp1 _ H1 Hs1 (s1.set i r1)
  · have fr : ∀ (j : Nat) (ys : List D), e[j]? = some (.ow ys) → σ[j]? ≠ some (some (.ref p)) := fun j ys hj hq => by
      obtain ⟨p2, vs2, b1, b2, b3, b4⟩ := s.sr.ow j ys hj
      rw [hq] at b1
      cases b1
      rw [n1] at b2
      cases b2
    refine hp1 _ H1 Hs1 ⟨s1.gr, s1.sr.setOw i h1 n2 r fr, fun j xs q g1' g2' => ?_⟩
    have g1' : (e.set i (SV.ow _))[j]? = some (.ow xs) := g1'
    rw [get_set] at g1' g2'
    by_cases z : i = j
    · rw [if_pos z] at g2'
      split at g2'
      · cases g2'
        exact s.gr.all.free n1
      · cases g2'
    · rw [if_neg z] at g1' g2'
      exact s.new j xs q g1' g2'
end
theorem start_ow {N : List Str} {ds : List D} (i : Nat) (xs : List D) : (ds.map SV.sh ++ List.replicate (N.length - ds.length) SV.no)[i]? ≠ some (.ow xs) := fun hi => by
  by_cases hlt : i < ds.length
  · rw [List.getElem?_append_left (by rw [List.length_map]; exact hlt), List.getElem?_map, List.getElem?_eq_getElem hlt] at hi
    cases hi
  · rw [List.getElem?_append_right (by rw [List.length_map]; omega)] at hi
    exact absurd hi replicate_no'
theorem sr_start {K : PySem.W.Frag} {H Hs : Hp} {N : List Str} {vs : List V} {ds : List D} (sm : Same Hs H) (r : RpA K Hs vs ds) : SR K (ds.map SV.sh ++ List.replicate (N.length - ds.length) SV.no) (L2.start N vs) H Hs := by
  refine ⟨sm, ?_, fun i d hi => ?_, fun i xs hi => absurd hi (start_ow i xs), fun i j xs ys q h1 h2 h3 h4 => absurd h1 (start_ow i xs)⟩
  · unfold L2.start
    rw [List.length_append, List.length_append, List.length_map, List.length_map, List.length_replicate, List.length_replicate, r.length]
  · unfold L2.start
    by_cases hlt : i < ds.length
    · rw [List.getElem?_append_left (by rw [List.length_map]; exact hlt), List.getElem?_map, List.getElem?_eq_getElem hlt] at hi
      cases hi
      obtain ⟨v, h1, h2⟩ := r.get (List.getElem?_eq_getElem hlt)
      refine ⟨v, ?_, h2⟩
      rw [List.getElem?_append_left (by rw [List.length_map, r.length]; exact hlt), List.getElem?_map, h1]
      rfl
    · rw [List.getElem?_append_right (by rw [List.length_map]; omega)] at hi
      exact absurd hi replicate_no
/-- a comprehension as a list of our own -/
theorem ppf_compF {X : Cx} {W : WX} {elt tg iter : Expr} {ifs : List Expr} {scope : Scope} {own : List (Str × Nat)} {cpos : Pos} {it : LF} {g : GF} {t : TF} {f : EF} {sl : List Nat}
    (hN : X.N.Nodup) (hi : PPI X W false tg iter it) (ok : blkC X.N X.env.scope scope own = true)
    (hg : ∀ (s : Shared) (H : Hp) (C : Addr) (cl : List (Str × Addr)) (fp : List Addr), PPG (X.blk s H scope (compEnvC scope cl C X.env) fp) tg sl g)
    (ht : ∀ (s : Shared) (H : Hp) (C : Addr) (cl : List (Str × Addr)) (fp : List Addr), PPTs (X.blk s H scope (compEnvC scope cl C X.env) fp) noW ifs t)
    (he : ∀ (s : Shared) (H : Hp) (C : Addr) (cl : List (Str × Addr)) (fp : List Addr), PPE (X.blk s H scope (compEnvC scope cl C X.env) fp) noW elt f) (hsl : ∀ i ∈ sl, i ∈ own.map (·.2) := by decide)
    (hc : X.calm = true := by rfl) (hs : ∀ x, foldedSetIterable iter X.env x = pure x := by intro _; rfl) :
    PPF X W (.ListComp elt [⟨tg, iter, ifs, 0⟩] scope cpos) (cmp it (own.map (·.2)) g t f) := by
  obtain ⟨tl, h1, h2, h3⟩ := ppf_comp (W := W) (pos := cpos) hN hi ok hg ht he hsl hc
  exact PPF.of_comp (W := W) (h1 hs) h3
/-- a def, what it hands back -/
theorem fnN_of {P : Program} {w : World} {K : PySem.W.Frag} {mg : Str → Option Value} {base : Heap} {x qual : Str} {st : Stmt} {f : Addr} {fd : FuncData} {N ps : List Str} {k : Nat} {b : SF} (F : Fun K x qual st f fd) (S : FnScope N ps (defScope st))
    (hbody : ∀ (cdv : Value) (A : Around) (outer : List PySem.Env) (s : Shared) (H : Hp) (E : XK), Room k (A.deeper (envOfC qual (defScope st) s.heap.objs.size f cdv)) →
      PPSs (cxOf (L2.CX P w) P w K mg base N qual (defScope st) f cdv A outer s H E) (fun cls d _ H => E cls d H) (RepN K) (defBody st) b) :
    FnN P w K mg base (k + 1) f fd ps (fnR N.length b) := by
  refine F.okX S (fun vs H Q E h => ?_) fun cdv A outer s H vs Q E hr h => ?_
  · obtain ⟨Hs, ds, _, r, hl, _⟩ := h
    rw [r.length]; exact hl
  · obtain ⟨Hs, ds, sm, r, hl, h⟩ := h
    obtain ⟨t, p, ht⟩ := (hbody cdv A outer s H E hr).out
    refine ⟨t, p, ht (ds.map SV.sh ++ List.replicate (N.length - ds.length) SV.no) (L2.start N vs) H Hs H Hs _ ⟨Grow.refl sm, sr_start sm r, fun i xs q h1 h2 => ?_⟩ ?_⟩
    · exact absurd h1 (start_ow i xs)
    · unfold fnR at h
      cases e1 : b (ds.map SV.sh ++ List.replicate (N.length - ds.length) SV.no) with
      | next e' => rw [e1] at h; exact fun σ' H' Hs' s' => h .non H' Hs' s'.gr (.inl ⟨rfl, .non⟩)
      | ret d => rw [e1] at h; exact fun v H' Hs' g rt => h v H' Hs' g rt
      | brk e' => rw [e1] at h; exact (show False from h).elim
      | cont e' => rw [e1] at h; exact (show False from h).elim
      | err c => rw [e1] at h; exact fun σ' H' g _ => h H' g
      | stk => rw [e1] at h; exact h
end PL

namespace PL
open PySem PySem.Spec PyProof.Rows L2
section
variable {X : Cx} {W : WX} {pos apos : Pos} {o a : Expr} {f g : EF}
theorem cs_str : CaS X (.type "str") bStr := by
  refine ⟨_, call_str_int, fun W σ H Hs xs ds Q s hx hp => ?_⟩
  unfold bStr at hp
  split at hp
  · split at hp
    · rename_i i hi
      obtain ⟨v, rfl, hv⟩ := boA1 hx
      refine ⟨i, by rw [hv.int], ?_, hp _ H Hs (Grow.refl s) (.str _)⟩
      by_cases h : i.natAbs = 0
      · rw [h]; decide
      · have := (Nat.log2_lt h).mpr hi
        omega
    · exact (show False from hp).elim
  · exact (show False from hp).elim
theorem strs_rp {K : PySem.W.Frag} {H : Hp} : ∀ {ds : List D} {vs : List V} {ys : List Str}, RpA K H vs ds → asSs ds = .ok ys → vs = ys.map V.str
  | [], _, ys, h, e => by cases h; cases e; rfl
  | d :: ds, vs, ys, h, e => by
    cases h with
    | cons h1 h2 =>
      cases d with
      | str b =>
        cases h1
        have e' : (asSs ds).bind (fun bs => R.ok (b :: bs)) = .ok ys := e
        cases e2 : asSs ds with
        | ok zs => rw [e2] at e'; cases e'; rw [strs_rp h2 e2]; rfl
        | err c => rw [e2] at e'; cases e'
        | stk => rw [e2] at e'; cases e'
      | _ => cases e
theorem asSs_no : ∀ {ds : List D} {c : Str}, asSs ds ≠ .err c
  | [], _, h => by cases h
  | d :: ds, c, h => by
    cases d with
    | str b =>
      have h' : (asSs ds).bind (fun bs => R.ok (b :: bs)) = .err c := h
      cases e : asSs ds with
      | ok zs => rw [e] at h'; cases h'
      | err c' => exact asSs_no e
      | stk => rw [e] at h'; cases h'
    | _ => cases h
theorem ppe_join (ho : PPB X W o f) (ha : PPB X W a g) (hs : starEach [a] X.env = [(false, eval a X.env)] := by rfl) (hbase : attributeBase o "join" X.env (eval o X.env) = eval o X.env := by rfl) (hline : (apos.endLine == pos.line) = true := by rfl) :
    PPE X W (.Call (.Attribute o "join" apos) [a] [] pos) (eJn f g) := by
  obtain ⟨to, po, ho⟩ := ho.out
  obtain ⟨ta, pa, ha⟩ := ha.out
  refine ⟨_, pe_join po pa hs hbase hline, fun e σ H Hs Q s hp => ?_⟩
  unfold eJn at hp
  refine ho e σ H Hs _ s (Post.bind (Rep2 := RepE X.K) hp anE fun d1 x H1 Hs1 _ g1 r1 hp1 => ?_)
  obtain ⟨z, rfl⟩ : ∃ z, d1 = .str z := by
    cases d1 <;> first
      | exact (show False from hp1).elim
      | exact ⟨_, rfl⟩
  have ex := r1.str
  subst ex
  refine ⟨⟨z, rfl⟩, ha e σ H1 Hs1 _ (s.grow g1) (Post.bind (Rep2 := RepE X.K) (r := g e) (k := fun b => opJoin (.str z) b) hp1 anE fun d2 y H2 Hs2 _ g2 r2 hp2 => ?_)⟩
  obtain ⟨xs, rfl⟩ : ∃ xs, d2 = .list xs := by
    cases d2 <;> first
      | exact (show False from hp2).elim
      | exact ⟨_, rfl⟩
  obtain ⟨p, vs, rfl, h1, h2⟩ := r2.list g2.sub
  have hp3 : Post X W σ H2 Hs2 (RepE X.K) ((asSs xs).bind fun ys => if (ys.map (·.length)).sum + ys.length * z.length ≤ szL then R.ok (.str (Str.join z ys)) else .stk) Q := hp2
  cases e1 : asSs xs with
  | err c =>
    exfalso
    exact asSs_no e1
  | stk => rw [e1] at hp3; exact (show False from hp3).elim
  | ok ys =>
    rw [e1, R.bind_ok] at hp3
    split at hp3
    · rename_i hl
      refine ⟨z, p, ys, rfl, rfl, .inl (by rw [← strs_rp h2 e1]; exact SqL.of h1), hl, ?_⟩
      rw [TL.join_eq]
      exact hp3 _ H2 Hs2 (Grow.refl g2.sub) (.str _)
    · exact (show False from hp3).elim
/-- what isn't told -/
theorem ppss_stk {RT : RTT} {st : List Stmt} : PPSs X W RT st sStk := ⟨fun _ _ _ => False, ⟨fun pins s σ H D I h => h.elim⟩, fun e σ H Hs H0 Hb Dn s hp => hp⟩
end
end PL

namespace PL
open PySem
/-! ## the mirrors -/
def nmOf : Str → Option Str := fun c => if c = "BadLoop" then some "loop " else none
/-- is_whole(thing) -/
def b_is_whole : SF :=
  (sRet (eAnd (eC (bIsi .int) (aC (eB 0) aN)) (eNot (eC (bIsi .bool) (aC (eB 0) aN)))))
abbrev m_is_whole : List D → R D := fnR 1 b_is_whole

/-- are_whole(thing, size) -/
def b_are_whole : SF :=
  (sRet (eAnd (eC (bIsi .list) (aC (eB 0) aN)) (eAnd (e2 opEq (eC bLen (aC (eB 0) aN)) (eB 1)) (eC bAll (aC (eL (cmp (iL (eB 0)) [2] (gN 2) qY (eC m_is_whole (aC (eV 2) aN)))) aN)))))
abbrev m_are_whole : List D → R D := fnR 3 b_are_whole

/-- is_row(thing, many) -/
def b_is_row : SF :=
  (sRet (eAnd (eC m_are_whole (aC (eV 0) (aC (e2 opAdd (eB 1) (eK (.int 1))) aN))) (eC bAll (aC (eL (cmp (iL (eB 0)) [2] (gN 2) qY (eCh opLe opLe (e2 opSub (eK (.int 0)) (eK (.int 1000))) (eB 2) (eK (.int 1000))))) aN))))
abbrev m_is_row : List D → R D := fnR 3 b_is_row

/-- are_rows(thing, many) -/
def b_are_rows : SF :=
  (sRet (eAnd (eC (bIsi .list) (aC (eB 0) aN)) (eC bAll (aC (eL (cmp (iL (eB 0)) [2] (gN 2) qY (eC m_is_row (aC (eV 2) (aC (eV 1) aN))))) aN))))
abbrev m_are_rows : List D → R D := fnR 3 b_are_rows

/-- is_way(thing, many) -/
def b_is_way : SF :=
  (sSeq (sIf (qOr (qNot (qV (eC (bIsi .tuple) (aC (eB 0) aN)))) (qV (e2 opNe (eC bLen (aC (eB 0) aN)) (eK (.int 2))))) (sRet (eK (.bool false))) sNil)
  (sSeq (sIf (qOr (qNot (qV (eC m_are_rows (aC (e2 opIx (eB 0) (eK (.int 0))) (aC (eV 1) aN))))) (qNot (qV (eC m_are_rows (aC (e2 opIx (eB 0) (eK (.int 1))) (aC (eV 1) aN)))))) (sRet (eK (.bool false))) sNil)
  (sRet (eAnd (e2 opLe (eC bLen (aC (e2 opIx (eB 0) (eK (.int 0))) aN)) (eK (.int 4))) (e2 opEq (eC bLen (aC (e2 opIx (eB 0) (eK (.int 1))) aN)) (eB 1))))))
abbrev m_is_way : List D → R D := fnR 2 b_is_way

/-- is_loop(thing) -/
def b_is_loop : SF :=
  (sSeq (sIf (qOr (qNot (qV (eC (bIsi .tuple) (aC (eB 0) aN)))) (qOr (qV (e2 opNe (eC bLen (aC (eB 0) aN)) (eK (.int 2)))) (qOr (qNot (qV (eC m_is_whole (aC (e2 opIx (eB 0) (eK (.int 0))) aN)))) (qNot (qV (eC (bIsi .list) (aC (e2 opIx (eB 0) (eK (.int 1))) aN))))))) (sRet (eK (.bool false))) sNil)
  (sSeq (sIf (qOr (qNot (qV (eCh opLe opLe (eK (.int 1)) (e2 opIx (eB 0) (eK (.int 0))) (eK (.int 3))))) (qNot (qV (eCh opLe opLe (eK (.int 1)) (eC bLen (aC (e2 opIx (eB 0) (eK (.int 1))) aN)) (eK (.int 3)))))) (sRet (eK (.bool false))) sNil)
  (sRet (eC bAll (aC (eL (cmp (iL (e2 opIx (eB 0) (eK (.int 1)))) [1] (gN 1) qY (eC m_is_way (aC (eV 1) (aC (e2 opIx (eB 0) (eK (.int 0))) aN))))) aN)))))
abbrev m_is_loop : List D → R D := fnR 2 b_is_loop

/-- need_loop(thing) -/
def b_need_loop : SF :=
  (sIf (qNot (qV (eC m_is_loop (aC (eV 0) aN)))) (sRaise "BadLoop") sNil)
abbrev m_need_loop : List D → R D := fnR 1 b_need_loop

/-- after(loop, number, state) -/
def b_after : SF :=
  (sSeq (sDo (eC m_need_loop (aC (eV 0) aN))) sStk)
abbrev m_after : List D → R D := fnR 3 b_after

/-- run(loop, state, most) -/
def b_run : SF :=
  (sSeq (sDo (eC m_need_loop (aC (eV 0) aN))) sStk)
abbrev m_run : List D → R D := fnR 6 b_run

/-- is_reason(loop, gauge, reason) -/
def b_is_reason : SF :=
  (sSeq (sDo (eC m_need_loop (aC (eV 0) aN))) sStk)
abbrev m_is_reason : List D → R D := fnR 5 b_is_reason

/-- are_spots(loop, spots) -/
def b_are_spots : SF :=
  (sSeq (sDo (eC m_need_loop (aC (eV 0) aN))) sStk)
abbrev m_are_spots : List D → R D := fnR 9 b_are_spots

/-- told(loop) -/
def b_told : SF :=
  (sSeq (sDo (eC m_need_loop (aC (eV 0) aN))) sStk)
abbrev m_told : List D → R D := fnR 9 b_told

/-- most_turns(loop, gauge, state) -/
def b_most_turns : SF :=
  (sSeq (sDo (eC m_need_loop (aC (eV 0) aN))) sStk)
abbrev m_most_turns : List D → R D := fnR 4 b_most_turns

/-- row_text(word, row) -/
def b_row_text : SF :=
  (sRet (eJn (eK (.str " ")) (e2 opAdd (eL (aC (eV 0) aN)) (eL (cmp (iL (eB 1)) [2] (gN 2) qY (eC bStr (aC (eB 2) aN)))))))
abbrev m_row_text : List D → R D := fnR 3 b_row_text

/-- written(loop) -/
def b_written : SF :=
  (sSeq (sDo (eC m_need_loop (aC (eV 0) aN)))
  (sSeq (sOwn 1 (aC (e2 opAdd (eK (.str "names ")) (eC bStr (aC (e2 opIx (eB 0) (eK (.int 0))) aN))) aN))
  (sSeq (sFor (iL (e2 opIx (eB 0) (eK (.int 1)))) (gN 2) (sSeq (sApp 1 (eK (.str "way")))
  (sSeq (sExt 1 (eL (cmp (iL (e2 opIx (eB 2) (eK (.int 0)))) [3] (gN 3) qY (eC m_row_text (aC (eK (.str "ask")) (aC (eV 3) aN))))))
  (sExt 1 (eL (cmp (iL (e2 opIx (eB 2) (eK (.int 1)))) [3] (gN 3) qY (eC m_row_text (aC (eK (.str "set")) (aC (eV 3) aN)))))))))
  (sRet (eJn (eK (.str "\n")) (eB 1))))))
abbrev m_written : List D → R D := fnR 4 b_written

/-- _law_cell_at(_law_script, _law_k) -/
def b_law_cell_at : SF :=
  (sSeq (sIf (qV (e2 opLt (eB 1) (eC bLen (aC (eB 0) aN)))) (sRet (e2 opIx (eB 0) (eV 1))) sNil)
  (sRet (eK (.int 0))))
abbrev m_law_cell_at : List D → R D := fnR 2 b_law_cell_at

/-- _law_drawn(_law_seed, _law_k) -/
def b_law_drawn : SF :=
  (sSeq (sSet (gN 2) (e2 opMod (e2 opMul (e2 opAdd (e2 opAdd (eB 0) (e2 opMul (eK (.int 101)) (eB 1))) (eK (.int 7))) (eK (.int 48271))) (eK (.int 2147483647))))
  (sRet (e2 opDiv (e2 opMod (e2 opMul (e2 opAdd (e2 opDiv (eB 2) (eK (.int 7))) (eB 1)) (eK (.int 16807))) (eK (.int 2147483647))) (eK (.int 64)))))
abbrev m_law_drawn : List D → R D := fnR 3 b_law_drawn

/-- _law_row_by(_law_cell, _law_k, _law_many) -/
def b_law_row_by : SF :=
  (sSeq (sIf (qV (e2 opEq (e2 opMod (eC m_law_drawn (aC (eV 0) (aC (e2 opAdd (e2 opMul (eK (.int 10)) (eB 1)) (eK (.int 9))) aN))) (eK (.int 8))) (eK (.int 3)))) (sRet (eL (cmp (iR1 (e2 opAdd (eB 2) (eK (.int 1)))) [3] (gN 3) qY (e2 opSub (e2 opMod (eC m_law_drawn (aC (eV 0) (aC (e2 opAdd (e2 opMul (eK (.int 10)) (eB 1)) (eB 3)) aN))) (eK (.int 2001))) (eK (.int 1000)))))) sNil)
  (sRet (e2 opAdd (eL (cmp (iR1 (eV 2)) [3] (gN 3) qY (e2 opSub (e2 opMod (eC m_law_drawn (aC (eV 0) (aC (e2 opAdd (e2 opMul (eK (.int 10)) (eB 1)) (eB 3)) aN))) (eK (.int 5))) (eK (.int 2))))) (eL (aC (e2 opSub (e2 opMod (eC m_law_drawn (aC (eV 0) (aC (e2 opAdd (e2 opMul (eK (.int 10)) (eB 1)) (eK (.int 7))) aN))) (eK (.int 13))) (eK (.int 6))) aN)))))
abbrev m_law_row_by : List D → R D := fnR 4 b_law_row_by

/-- _law_way_by(_law_cell, _law_many) -/
def b_law_way_by : SF :=
  (sSeq (sSet (gN 2) (e2 opMod (eC m_law_drawn (aC (eV 0) (aC (eK (.int 3)) aN))) (eK (.int 4))))
  (sSeq (sSet (gN 3) (eL (cmp (iR1 (e2 opMod (eC m_law_drawn (aC (eV 0) (aC (eK (.int 4)) aN))) (eK (.int 4)))) [4] (gN 4) qY (eC m_law_row_by (aC (eV 0) (aC (e2 opAdd (eK (.int 2)) (eB 4)) (aC (eV 1) aN)))))))
  (sSeq (sSet (gN 5) (eL (cmp (iR1 (eV 1)) [4] (gN 4) qY (eC m_law_row_by (aC (eV 0) (aC (e2 opAdd (eK (.int 6)) (eB 4)) (aC (eV 1) aN)))))))
  (sSeq (sSet (gN 6) (eL (cmp (iR1 (eV 1)) [4] (gN 4) qY (e2 opSub (e2 opMod (eC m_law_drawn (aC (eV 0) (aC (e2 opAdd (eK (.int 100)) (eB 4)) aN))) (eK (.int 7))) (eK (.int 3))))))
  (sSeq (sIf (qOr (qV (e2 opEq (eB 2) (eK (.int 1)))) (qV (e2 opEq (eB 2) (eK (.int 2))))) (sSet (gN 5) (eL (cmp (iR1 (eV 1)) [4] (gN 4) qY (e2 opAdd (eL (cmp (iR1 (eV 1)) [7] (gN 7) qY (eC bInt (aC (e2 opEq (eB 7) (eB 4)) aN)))) (eL (aC (e2 opIx (eB 6) (eV 4)) aN)))))) sNil)
  (sSeq (sIf (qV (e2 opEq (eB 2) (eK (.int 2)))) (sSet (gN 3) (e2 opAdd (eB 3) (eL (aC (e2 opAdd (eL (cmp (iL (eB 6)) [8] (gN 8) qY (e2 opSub (eK (.int 0)) (eB 8)))) (eL (aC (e2 opMod (eC m_law_drawn (aC (eV 0) (aC (eK (.int 110)) aN))) (eK (.int 9))) aN))) aN)))) sNil)
  (sSeq (sIf (qV (e2 opEq (eB 2) (eK (.int 3)))) (sSet (gN 5) (eL (cmp (iL (eB 5)) [9] (gN 9) qY (e2 opAdd (e2 opMul (eL (aC (eK (.int 0)) aN)) (eB 1)) (eSl (eB 9) (oS (eV 1)) oN))))) sNil)
  (sRet (eT (aC (eV 3) (aC (eV 5) aN)))))))))))
abbrev m_law_way_by : List D → R D := fnR 10 b_law_way_by

/-- _law_far(_law_row) -/
def b_law_far : SF :=
  (sRet (eL (cmp (iL (eB 0)) [1] (gN 1) qY (eC bMax2 (aC (e1 opNeg (eK (.int 1000))) (aC (eC bMin2 (aC (eK (.int 1000)) (aC (e2 opMul (eK (.int 250)) (eB 1)) aN))) aN))))))
abbrev m_law_far : List D → R D := fnR 2 b_law_far

/-- _law_loop_by(_law_script, _law_at) -/
def b_law_loop_by : SF :=
  (sSeq (sSet (gN 2) (eC m_law_cell_at (aC (eV 0) (aC (eV 1) aN))))
  (sSeq (sSet (gN 3) (e2 opIx (eL (aC (eK (.int 1)) (aC (eK (.int 2)) (aC (eK (.int 3)) (aC (eK (.int 1)) (aC (eK (.int 2)) (aC (eK (.int 2)) (aC (eK (.int 1)) (aC (eK (.int 3)) aN))))))))) (e2 opMod (eB 2) (eK (.int 8)))))
  (sSeq (sSet (gN 4) (e2 opIx (eL (aC (eK (.int 1)) (aC (eK (.int 2)) (aC (eK (.int 1)) (aC (eK (.int 1)) (aC (eK (.int 2)) (aC (eK (.int 1)) (aC (eK (.int 3)) aN)))))))) (e2 opMod (e2 opDiv (eB 2) (eK (.int 8))) (eK (.int 7)))))
  (sSeq (sSet (gN 5) (eL (cmp (iR1 (eV 4)) [6] (gN 6) qY (eC m_law_way_by (aC (eC m_law_cell_at (aC (eV 0) (aC (e2 opAdd (e2 opAdd (eB 1) (eK (.int 1))) (eB 6)) aN))) (aC (eV 3) aN))))))
  (sSeq (sIf (qV (e2 opEq (e2 opMod (e2 opDiv (eB 2) (eK (.int 56))) (eK (.int 8))) (eK (.int 5)))) (sSeq (sOwn 7 aN)
  (sSeq (sFor (iL (eV 5)) (gT [(gN 8), (gN 9)]) (sApp 7 (eT (aC (eL (cmp (iL (eB 8)) [10] (gN 10) qY (eC m_law_far (aC (eV 10) aN)))) (aC (eL (cmp (iL (eB 9)) [10] (gN 10) qY (eC m_law_far (aC (eV 10) aN)))) aN)))))
  (sFrz 7 (sSet (gN 5) (eV 7))))) sNil)
  (sRet (eT (aC (eV 3) (aC (eV 5) aN)))))))))
abbrev m_law_loop_by : List D → R D := fnR 11 b_law_loop_by

def b_law_name_of (a : Nat) (qBadLoop qBadState qBadCount qBadGauge qBadTable qBadText qValueError : Bool) : SF :=
  (sSeq (sSet (gN 1) (e2 opAdd (e2 opMul (eK (.str "loop ")) (eC bInt (aC (e1 (isAdr a qBadLoop) (eV 0)) aN))) (e2 opMul (eK (.str "state ")) (eC bInt (aC (e1 (isAdr a qBadState) (eV 0)) aN)))))
  (sSeq (sSet (gN 1) (e2 opAdd (e2 opAdd (eB 1) (e2 opMul (eK (.str "count ")) (eC bInt (aC (e1 (isAdr a qBadCount) (eV 0)) aN)))) (e2 opMul (eK (.str "gauge ")) (eC bInt (aC (e1 (isAdr a qBadGauge) (eV 0)) aN)))))
  (sSeq (sSet (gN 1) (e2 opAdd (e2 opAdd (eB 1) (e2 opMul (eK (.str "table ")) (eC bInt (aC (e1 (isAdr a qBadTable) (eV 0)) aN)))) (e2 opMul (eK (.str "text ")) (eC bInt (aC (e1 (isAdr a qBadText) (eV 0)) aN)))))
  (sRet (e2 opIx (eL (aC (eV 1) (aC (eK (.str "bare")) aN))) (eC bInt (aC (eNot (e1 (isAdr a qValueError) (eV 0))) aN)))))))

def b_law_copied (mc : List D → R D) : SF :=
  (sSeq (sIf (qV (eC (bIsi .list) (aC (eB 0) aN))) (sRet (eL (cmp (iL (eB 0)) [1] (gN 1) qY (eC mc (aC (eV 1) aN))))) sNil)
  (sSeq (sIf (qV (eC (bIsi .tuple) (aC (eB 0) aN))) (sRet (eC bTup (aC (eL (cmp (iT (eV 0)) [1] (gN 1) qY (eC mc (aC (eV 1) aN)))) aN))) sNil)
  (sRet (eV 0))))
def m_law_copied : Nat → List D → R D
  | 0 => fun _ => .stk
  | n + 1 => fnR 2 (b_law_copied (m_law_copied n))

/-- _law_asked(_law_which, _law_thing) -/
def b_law_asked : SF :=
  (sSeq (sIf (qV (e2 opEq (eB 0) (eK (.int 0)))) (sRet (eC m_need_loop (aC (eV 1) aN))) sNil)
  (sSeq (sIf (qV (e2 opEq (eB 0) (eK (.int 1)))) (sRet (eC m_after (aC (eV 1) (aC (eK .none) (aC (eK (.int 5)) aN))))) sNil)
  (sSeq (sIf (qV (e2 opEq (eB 0) (eK (.int 2)))) (sRet (eC m_run (aC (eV 1) (aC (eK .none) (aC (e1 opNeg (eK (.int 1))) aN))))) sNil)
  (sSeq (sIf (qV (e2 opEq (eB 0) (eK (.int 3)))) (sRet (eC m_told (aC (eV 1) aN))) sNil)
  (sSeq (sIf (qV (e2 opEq (eB 0) (eK (.int 4)))) (sRet (eC m_is_reason (aC (eV 1) (aC (eK .none) (aC (eK (.int 5)) aN))))) sNil)
  (sSeq (sIf (qV (e2 opEq (eB 0) (eK (.int 5)))) (sRet (eC m_are_spots (aC (eV 1) (aC (eK .none) aN)))) sNil)
  (sSeq (sIf (qV (e2 opEq (eB 0) (eK (.int 6)))) (sRet (eC m_most_turns (aC (eV 1) (aC (eK .none) (aC (eK (.int 5)) aN))))) sNil)
  (sRet (eC m_written (aC (eV 1) aN))))))))))
abbrev m_law_asked : List D → R D := fnR 2 b_law_asked

/-- _law_word(_law_which, _law_thing) -/
def b_law_word : SF :=
  (sSeq (sTry (sDo (eC m_law_asked (aC (eV 0) (aC (eV 1) aN)))) nmOf)
  (sRet (eK (.str ""))))
abbrev m_law_word : List D → R D := fnR 3 b_law_word

/-- _law_put(_law_row, _law_at, _law_thing) -/
def b_law_put : SF :=
  (sSeq (sIf (qV (e2 opEq (eB 0) (eL aN))) (sRet (eL (aC (eV 2) aN))) sNil)
  (sRet (e2 opAdd (e2 opAdd (eSl (eB 0) oN (oS (e2 opMod (eB 1) (eC bLen (aC (eB 0) aN))))) (eL (aC (eV 2) aN))) (eSl (eB 0) (oS (e2 opAdd (e2 opMod (eB 1) (eC bLen (aC (eB 0) aN))) (eK (.int 1)))) oN))))
abbrev m_law_put : List D → R D := fnR 3 b_law_put

/-- _law_row_bent(_law_rows, _law_cell, _law_at) -/
def b_law_row_bent : SF :=
  (sSeq (sSet (gN 3) (eIf (qV (e2 opNe (eB 0) (eL aN))) (e2 opIx (eB 0) (e2 opMod (eB 2) (eC bLen (aC (eB 0) aN)))) (eL (aC (eK (.int 0)) aN))))
  (sSeq (sSet (gN 4) (e2 opIx (eL (aC (eK (.int 1001)) (aC (e1 opNeg (eK (.int 1001))) (aC (eK (.bool true)) (aC (eK .none) (aC (eK (.str "1")) (aC (eL (aC (eK (.int 0)) aN)) (aC (eK (.bool false)) (aC (e2 opPow (eK (.int 10)) (eK (.int 20))) (aC (eK (.int 1000)) (aC (e1 opNeg (eK (.int 1000))) aN))))))))))) (e2 opMod (e2 opDiv (eB 1) (eK (.int 16))) (eK (.int 10)))))
  (sSeq (sSet (gN 5) (e2 opIx (eL (aC (eSl (eB 3) (oS (eK (.int 1))) oN) (aC (e2 opAdd (eB 3) (eL (aC (eK (.int 0)) aN))) (aC (eC bTup (aC (eB 3) aN)) (aC (eK .none) (aC (eK (.int 5)) (aC (eL aN) (aC (eK (.str "0")) (aC (eK (.dict [])) (aC (eL (aC (eV 3) aN)) aN)))))))))) (e2 opMod (e2 opDiv (eB 1) (eK (.int 16))) (eK (.int 9)))))
  (sSeq (sSet (gN 6) (e2 opIx (eL (aC (eC m_law_put (aC (eV 3) (aC (e2 opDiv (eB 2) (eK (.int 4))) (aC (eV 4) aN)))) (aC (eV 5) aN))) (e2 opMod (e2 opDiv (eB 1) (eK (.int 8))) (eK (.int 2)))))
  (sRet (eC m_law_put (aC (eV 0) (aC (eV 2) (aC (eV 6) aN)))))))))
abbrev m_law_row_bent : List D → R D := fnR 7 b_law_row_bent

/-- _law_bent(_law_loop, _law_cell, _law_at) -/
def b_law_bent : SF :=
  (sSeq (sSet (gT [(gN 3), (gN 4)]) (eV 0))
  (sSeq (sSet (gN 5) (e2 opMod (eB 2) (eC bLen (aC (eB 4) aN))))
  (sSeq (sSet (gT [(gN 6), (gN 7)]) (e2 opIx (eB 4) (eV 5)))
  (sSeq (sIf (qV (e2 opLt (e2 opMod (eB 1) (eK (.int 8))) (eK (.int 2)))) (sSet (gN 8) (eT (aC (eC m_law_row_bent (aC (eV 6) (aC (eV 1) (aC (e2 opDiv (eB 2) (eK (.int 3))) aN)))) (aC (eV 7) aN)))) (sIf (qV (e2 opLt (e2 opMod (eB 1) (eK (.int 8))) (eK (.int 4)))) (sSet (gN 8) (eT (aC (eV 6) (aC (eC m_law_row_bent (aC (eV 7) (aC (eV 1) (aC (e2 opDiv (eB 2) (eK (.int 3))) aN)))) aN)))) (sIf (qV (e2 opEq (e2 opMod (eB 1) (eK (.int 8))) (eK (.int 4)))) (sSeq (sSet (gN 9) (e2 opAdd (eB 6) (e2 opMul (eL (aC (e2 opMul (eL (aC (eK (.int 0)) aN)) (e2 opAdd (eB 3) (eK (.int 1)))) aN)) (e2 opSub (eK (.int 5)) (eC bLen (aC (eB 6) aN))))))
  (sSet (gN 8) (eT (aC (e2 opIx (eL (aC (eK .none) (aC (eC bTup (aC (eB 6) aN)) (aC (eV 9) (aC (eK (.int 5)) (aC (eV 9) (aC (eK (.str "")) (aC (eSl (eB 6) oN (oS (eK (.int 1)))) (aC (eV 9) aN))))))))) (e2 opMod (e2 opDiv (eB 1) (eK (.int 8))) (eK (.int 8)))) (aC (eV 7) aN))))) (sIf (qV (e2 opEq (e2 opMod (eB 1) (eK (.int 8))) (eK (.int 5)))) (sSet (gN 8) (eT (aC (eV 6) (aC (e2 opIx (eL (aC (eK .none) (aC (eC bTup (aC (eB 7) aN)) (aC (eSl (eB 7) (oS (eK (.int 1))) oN) (aC (e2 opAdd (eB 7) (eL (aC (e2 opIx (eB 7) (eK (.int 0))) aN))) (aC (eK (.int 5)) (aC (eL aN) (aC (eK (.dict [])) aN)))))))) (e2 opMod (e2 opDiv (eB 1) (eK (.int 8))) (eK (.int 7)))) aN)))) (sIf (qV (e2 opEq (e2 opMod (eB 1) (eK (.int 8))) (eK (.int 6)))) (sSet (gN 8) (e2 opIx (eL (aC (eL (aC (eV 6) (aC (eV 7) aN))) (aC (eT (aC (eV 6) aN)) (aC (eT (aC (eV 6) (aC (eV 7) (aC (eL aN) aN)))) (aC (eK .none) (aC (eK (.str "way")) (aC (eK (.int 5)) (aC (eT (aC (eV 7) (aC (eV 6) aN))) (aC (eT aN) aN))))))))) (e2 opMod (e2 opDiv (eB 1) (eK (.int 8))) (eK (.int 8))))) (sSeq (sSet (gN 10) (eL (aC (eL (aC (eV 3) (aC (eV 4) aN))) (aC (eT (aC (eV 3) aN)) (aC (eT (aC (eV 3) (aC (eV 4) (aC (eK (.int 0)) aN)))) (aC (eK .none) (aC (eT (aC (eK (.int 0)) (aC (eV 4) aN))) (aC (eT (aC (eK (.int 4)) (aC (eV 4) aN))) (aC (eT (aC (eK (.bool true)) (aC (eV 4) aN))) (aC (eT (aC (e2 opAdd (eB 3) (eK (.int 1))) (aC (eV 4) aN))) aN))))))))))
  (sSeq (sSet (gN 10) (e2 opAdd (eB 10) (eL (aC (eT (aC (eV 3) (aC (eL aN) aN))) (aC (eT (aC (eV 3) (aC (e2 opMul (eB 4) (eK (.int 4))) aN))) (aC (eT (aC (eV 3) (aC (eC bTup (aC (eB 4) aN)) aN))) (aC (eT (aC (eC bStr (aC (eB 3) aN)) (aC (eV 4) aN))) (aC (eT (aC (eV 3) (aC (eK .none) aN))) (aC (eK (.str "loop")) (aC (eK (.int 5)) aN))))))))))
  (sRet (e2 opIx (eB 10) (e2 opMod (e2 opDiv (eB 1) (eK (.int 8))) (eK (.int 15))))))))))))
  (sRet (eT (aC (eV 3) (aC (e2 opAdd (e2 opAdd (eSl (eB 4) oN (oS (eV 5))) (eL (aC (eV 8) aN))) (eSl (eB 4) (oS (e2 opAdd (eB 5) (eK (.int 1)))) oN)) aN))))))))
abbrev m_law_bent : List D → R D := fnR 11 b_law_bent

/-- _law_is_row(_law_thing, _law_many) -/
def b_law_is_row : SF :=
  (sSeq (sIf (qOr (qNot (qV (eC (bIsi .list) (aC (eB 0) aN)))) (qV (e2 opNe (eC bLen (aC (eB 0) aN)) (e2 opAdd (eB 1) (eK (.int 1)))))) (sRet (eK (.bool false))) sNil)
  (sSeq (sFor (iL (eV 0)) (gN 2) (sIf (qOr (qNot (qV (eC (bIsi .int) (aC (eB 2) aN)))) (qOr (qV (eC (bIsi .bool) (aC (eB 2) aN))) (qNot (qV (eCh opLe opLe (e1 opNeg (eK (.int 1000))) (eB 2) (eK (.int 1000))))))) (sRet (eK (.bool false))) sNil))
  (sRet (eK (.bool true)))))
abbrev m_law_is_row : List D → R D := fnR 3 b_law_is_row

/-- _law_is_loop(_law_thing) -/
def b_law_is_loop : SF :=
  (sSeq (sIf (qOr (qNot (qV (eC (bIsi .tuple) (aC (eB 0) aN)))) (qOr (qV (e2 opNe (eC bLen (aC (eB 0) aN)) (eK (.int 2)))) (qNot (qV (eC (bIsi .list) (aC (e2 opIx (eB 0) (eK (.int 1))) aN)))))) (sRet (eK (.bool false))) sNil)
  (sSeq (sSet (gT [(gN 1), (gN 2)]) (eV 0))
  (sSeq (sIf (qOr (qNot (qV (eC (bIsi .int) (aC (eB 1) aN)))) (qOr (qV (eC (bIsi .bool) (aC (eB 1) aN))) (qOr (qNot (qV (eCh opLe opLe (eK (.int 1)) (eB 1) (eK (.int 3))))) (qNot (qV (eCh opLe opLe (eK (.int 1)) (eC bLen (aC (eB 2) aN)) (eK (.int 3)))))))) (sRet (eK (.bool false))) sNil)
  (sSeq (sFor (iL (eV 2)) (gN 3) (sSeq (sIf (qOr (qNot (qV (eC (bIsi .tuple) (aC (eB 3) aN)))) (qOr (qV (e2 opNe (eC bLen (aC (eB 3) aN)) (eK (.int 2)))) (qOr (qNot (qV (eC (bIsi .list) (aC (e2 opIx (eB 3) (eK (.int 0))) aN)))) (qNot (qV (eC (bIsi .list) (aC (e2 opIx (eB 3) (eK (.int 1))) aN))))))) (sRet (eK (.bool false))) sNil)
  (sIf (qOr (qV (e2 opGt (eC bLen (aC (e2 opIx (eB 3) (eK (.int 0))) aN)) (eK (.int 4)))) (qOr (qV (e2 opNe (eC bLen (aC (e2 opIx (eB 3) (eK (.int 1))) aN)) (eB 1))) (qNot (qV (eC bAll (aC (eL (cmp (iL (e2 opAdd (e2 opIx (eB 3) (eK (.int 0))) (e2 opIx (eB 3) (eK (.int 1))))) [4] (gN 4) qY (eC m_law_is_row (aC (eV 4) (aC (eV 1) aN))))) aN)))))) (sRet (eK (.bool false))) sNil)))
  (sRet (eK (.bool true)))))))
abbrev m_law_is_loop : List D → R D := fnR 5 b_law_is_loop

/-- law(_law_script) -/
def b_law : SF :=
  (sSeq (sSet (gN 1) (eC m_law_loop_by (aC (eV 0) (aC (eK (.int 3)) aN))))
  (sSeq (sSet (gN 2) (eC m_law_cell_at (aC (eV 0) (aC (eK (.int 0)) aN))))
  (sSeq (sSet (gN 3) (eV 1))
  (sSeq (sIf (qV (e2 opGt (e2 opMod (eB 2) (eK (.int 6))) (eK (.int 0)))) (sSet (gN 3) (eC m_law_bent (aC (eV 1) (aC (e2 opDiv (eB 2) (eK (.int 6))) (aC (eC m_law_cell_at (aC (eV 0) (aC (eK (.int 1)) aN))) aN))))) sNil)
  (sSeq (sSet (gN 4) (eC (m_law_copied 12) (aC (eV 3) aN)))
  (sSeq (sSet (gN 5) (eC m_law_is_loop (aC (eV 3) aN)))
  (sSeq (sIf (qOr (qV (e2 opNe (eC m_law_word (aC (eK (.int 0)) (aC (eV 3) aN))) (e2 opIx (eL (aC (eK (.str "loop ")) (aC (eK (.str "")) aN))) (eC bInt (aC (eB 5) aN))))) (qV (e2 opNe (eB 3) (eB 4)))) (sRet (eK (.bool false))) sNil)
  (sSeq (sIf (qV (eV 5)) (sRet (eAnd (e2 opIs (eC m_need_loop (aC (eV 3) aN)) (eK .none)) (eAnd (e2 opEq (eC m_law_word (aC (eK (.int 7)) (aC (eV 3) aN))) (eK (.str ""))) (e2 opEq (eB 3) (eB 4))))) sNil)
  (sRet (eAnd (e2 opEq (eC m_law_word (aC (e2 opAdd (eK (.int 1)) (e2 opMod (eC m_law_cell_at (aC (eV 0) (aC (eK (.int 2)) aN))) (eK (.int 7)))) (aC (eV 3) aN))) (eK (.str "loop "))) (e2 opEq (eB 3) (eB 4))))))))))))
abbrev m_law : List D → R D := fnR 6 b_law

theorem res_BadLoop (a : Nat) : b_law_name_of a true false false false false false true (.sh (adr a) :: List.replicate 1 .no) = .ret (.str "loop ") := by
  unfold b_law_name_of
  show sSeq _ _ [.sh (adr a), .no] = _
  simp (disch := decide) only [sSeq, sSet, sRet, e2, eC, aC, aN, eK, eNot, eL, isAdr_eV, R.bind, R.out, bInt, str0, str1, asB, gN, List.set, ↓reduceIte, Bool.false_eq_true, add_str, eB1, ix0, eV, Bool.not_true, Bool.not_false]
  rfl

theorem nmOf_all (p : Str → Str → Prop) (h0 : p "BadLoop" "loop ") {c z : Str} (h : nmOf c = some z) : p c z := by
  unfold nmOf at h
  split at h
  · rename_i e; cases h; rw [e]; exact h0
  cases h
end PL

namespace PL
open PySem PySem.Spec PyProof.Rows L2
/-! ## the walk -/
def topS (i : Nat) : Stmt := PySem.Challenge.pw_loopgauge_k01_what_is_no_loop.main.body.getD i (.Pass ⟨0, 0, 0, 0⟩)
structure Txt (K : PySem.W.Frag) (mg : Str → Option Value) : Type where
  b_ValueError : mg "ValueError" = none
  b_all : mg "all" = none
  b_bool : mg "bool" = none
  b_int : mg "int" = none
  b_isinstance : mg "isinstance" = none
  b_len : mg "len" = none
  b_list : mg "list" = none
  b_max : mg "max" = none
  b_min : mg "min" = none
  b_range : mg "range" = none
  b_str : mg "str" = none
  b_tuple : mg "tuple" = none
  k_MOST_NAMES : ∃ t, mg "MOST_NAMES" = some (.int 3 t)
  k_MOST_WAYS : ∃ t, mg "MOST_WAYS" = some (.int 3 t)
  k_MOST_ASKS : ∃ t, mg "MOST_ASKS" = some (.int 4 t)
  k_FAR : ∃ t, mg "FAR" = some (.int 1000 t)
  c_LoopError : Addr
  x_LoopError : ExcF K mg "LoopError" c_LoopError
  c_BadLoop : Addr
  x_BadLoop : ExcF K mg "BadLoop" c_BadLoop
  c_BadState : Addr
  x_BadState : ExcF K mg "BadState" c_BadState
  c_BadCount : Addr
  x_BadCount : ExcF K mg "BadCount" c_BadCount
  c_BadGauge : Addr
  x_BadGauge : ExcF K mg "BadGauge" c_BadGauge
  c_BadTable : Addr
  x_BadTable : ExcF K mg "BadTable" c_BadTable
  c_BadText : Addr
  x_BadText : ExcF K mg "BadText" c_BadText
  d_BadLoop : ExcC K c_BadLoop
  s_BadLoop_LoopError : PySem.W.subIn K (.ref c_BadLoop) (.ref c_LoopError) = some true
  n_BadLoop_LoopError : (Value.ref c_BadLoop == Value.ref c_LoopError) = false
  s_BadLoop_BadState : PySem.W.subIn K (.ref c_BadLoop) (.ref c_BadState) = some false
  n_BadLoop_BadState : (Value.ref c_BadLoop == Value.ref c_BadState) = false
  s_BadLoop_BadCount : PySem.W.subIn K (.ref c_BadLoop) (.ref c_BadCount) = some false
  n_BadLoop_BadCount : (Value.ref c_BadLoop == Value.ref c_BadCount) = false
  s_BadLoop_BadGauge : PySem.W.subIn K (.ref c_BadLoop) (.ref c_BadGauge) = some false
  n_BadLoop_BadGauge : (Value.ref c_BadLoop == Value.ref c_BadGauge) = false
  s_BadLoop_BadTable : PySem.W.subIn K (.ref c_BadLoop) (.ref c_BadTable) = some false
  n_BadLoop_BadTable : (Value.ref c_BadLoop == Value.ref c_BadTable) = false
  s_BadLoop_BadText : PySem.W.subIn K (.ref c_BadLoop) (.ref c_BadText) = some false
  n_BadLoop_BadText : (Value.ref c_BadLoop == Value.ref c_BadText) = false
abbrev s_is_whole : Stmt := topS 14
theorem sc_is_whole : FnScope ["thing"] ["thing"] (defScope s_is_whole) := ⟨rfl, rfl, rfl, by decide +kernel, rfl, by decide +kernel, by decide +kernel⟩
theorem ok_is_whole {P : Program} {w : World} {K : PySem.W.Frag} {mg : Str → Option Value} {base : Heap} {fa : Addr} {fd : FuncData} (T : Txt K mg) (F : Fun K "is_whole" "is_whole" s_is_whole fa fd) : FnP P w K mg base 1 fa fd ["thing"] m_is_whole :=
  fnP_of (N := ["thing"]) (k := 0) F sc_is_whole fun cdv A outer s H E hr => by
    have nd : (["thing"] : List Str).Nodup := sc_is_whole.nd
    have tk := @takes_of (cxOf (L2.CX P w) P w K mg base ["thing"] "is_whole" (defScope s_is_whole) fa cdv A outer s H E) E rfl rfl rfl _ rfl
    exact (ppss_one (pps_ret (ppe_and (ppe_isi .int (ppb_v 0) T.b_isinstance boot_isi T.b_int boot_int) (ppe_one (ppe_not (ppe_isi .bool (ppb_v 0) T.b_isinstance boot_isi T.b_bool boot_bool))))))

abbrev s_are_whole : Stmt := topS 15
theorem sc_are_whole : FnScope ["thing", "size", "one"] ["thing", "size"] (defScope s_are_whole) := ⟨rfl, rfl, rfl, by decide +kernel, rfl, by decide +kernel, by decide +kernel⟩
theorem ok_are_whole {P : Program} {w : World} {K : PySem.W.Frag} {mg : Str → Option Value} {base : Heap} {fa : Addr} {fd : FuncData} (T : Txt K mg) (c_is_whole : Cal P w K mg base "is_whole" ["thing"] 1 m_is_whole) (F : Fun K "are_whole" "are_whole" s_are_whole fa fd) : FnP P w K mg base 2 fa fd ["thing", "size"] m_are_whole :=
  fnP_of (N := ["thing", "size", "one"]) (k := 1) F sc_are_whole fun cdv A outer s H E hr => by
    have nd : (["thing", "size", "one"] : List Str).Nodup := sc_are_whole.nd
    have tk := @takes_of (cxOf (L2.CX P w) P w K mg base ["thing", "size", "one"] "are_whole" (defScope s_are_whole) fa cdv A outer s H E) E rfl rfl rfl _ rfl
    exact (ppss_one (pps_ret (ppe_and (ppe_isi .list (ppb_v 0) T.b_isinstance boot_isi T.b_list boot_list) (ppe_and (ppe_cmp (os_eq hr.units) (ppe_callB cs_len T.b_len PySem.boot_len (ppba_cons (ppb_v 0) ppba_nil)).bo (ppb_v 1) (nomark _)) (ppe_one (ppe_callB (cs_all rfl) T.b_all boot_all (ppba_cons (ppe_comp (own := [("one", 2)]) nd (ppi_list (ppb_v 0)) (by kernel_rfl) (fun _ _ _ _ _ => (ppg_n 2 nd)) (fun _ _ _ _ _ => ppts_nil) (fun _ _ _ _ _ => (ppe_cal c_is_whole hr takes0 (ppa_cons (ppe_v 2) ppa_nil)))).bo ppba_nil)))))))

abbrev s_is_row : Stmt := topS 16
theorem sc_is_row : FnScope ["thing", "many", "one"] ["thing", "many"] (defScope s_is_row) := ⟨rfl, rfl, rfl, by decide +kernel, rfl, by decide +kernel, by decide +kernel⟩
theorem ok_is_row {P : Program} {w : World} {K : PySem.W.Frag} {mg : Str → Option Value} {base : Heap} {fa : Addr} {fd : FuncData} (T : Txt K mg) (c_are_whole : Cal P w K mg base "are_whole" ["thing", "size"] 2 m_are_whole) (F : Fun K "is_row" "is_row" s_is_row fa fd) : FnP P w K mg base 3 fa fd ["thing", "many"] m_is_row :=
  fnP_of (N := ["thing", "many", "one"]) (k := 2) F sc_is_row fun cdv A outer s H E hr => by
    have nd : (["thing", "many", "one"] : List Str).Nodup := sc_is_row.nd
    have tk := @takes_of (cxOf (L2.CX P w) P w K mg base ["thing", "many", "one"] "is_row" (defScope s_is_row) fa cdv A outer s H E) E rfl rfl rfl _ rfl
    exact (ppss_one (pps_ret (ppe_and (ppe_cal c_are_whole hr tk (ppa_cons (ppe_v 0) (ppa_cons (ppe_op os_add (ppb_v 1) ppe_int.bo) ppa_nil))) (ppe_one (ppe_callB (cs_all rfl) T.b_all boot_all (ppba_cons (ppe_comp (own := [("one", 2)]) nd (ppi_list (ppb_v 0)) (by kernel_rfl) (fun _ _ _ _ _ => (ppg_n 2 nd)) (fun _ _ _ _ _ => ppts_nil) (fun _ _ _ _ _ => (ppe_chain os_le os_le (ppe_op os_sub ppe_int.bo (ppe_gi T.k_FAR).bo).bo (ppb_v 2) (ppe_gi T.k_FAR).bo))).bo ppba_nil))))))

abbrev s_are_rows : Stmt := topS 17
theorem sc_are_rows : FnScope ["thing", "many", "row"] ["thing", "many"] (defScope s_are_rows) := ⟨rfl, rfl, rfl, by decide +kernel, rfl, by decide +kernel, by decide +kernel⟩
theorem ok_are_rows {P : Program} {w : World} {K : PySem.W.Frag} {mg : Str → Option Value} {base : Heap} {fa : Addr} {fd : FuncData} (T : Txt K mg) (c_is_row : Cal P w K mg base "is_row" ["thing", "many"] 3 m_is_row) (F : Fun K "are_rows" "are_rows" s_are_rows fa fd) : FnP P w K mg base 4 fa fd ["thing", "many"] m_are_rows :=
  fnP_of (N := ["thing", "many", "row"]) (k := 3) F sc_are_rows fun cdv A outer s H E hr => by
    have nd : (["thing", "many", "row"] : List Str).Nodup := sc_are_rows.nd
    have tk := @takes_of (cxOf (L2.CX P w) P w K mg base ["thing", "many", "row"] "are_rows" (defScope s_are_rows) fa cdv A outer s H E) E rfl rfl rfl _ rfl
    exact (ppss_one (pps_ret (ppe_and (ppe_isi .list (ppb_v 0) T.b_isinstance boot_isi T.b_list boot_list) (ppe_one (ppe_callB (cs_all rfl) T.b_all boot_all (ppba_cons (ppe_comp (own := [("row", 2)]) nd (ppi_list (ppb_v 0)) (by kernel_rfl) (fun _ _ _ _ _ => (ppg_n 2 nd)) (fun _ _ _ _ _ => ppts_nil) (fun _ _ _ _ _ => (ppe_cal c_is_row hr takes0 (ppa_cons (ppe_v 2) (ppa_cons (ppe_v 1) ppa_nil))))).bo ppba_nil))))))

abbrev s_is_way : Stmt := topS 18
theorem sc_is_way : FnScope ["thing", "many"] ["thing", "many"] (defScope s_is_way) := ⟨rfl, rfl, rfl, by decide +kernel, rfl, by decide +kernel, by decide +kernel⟩
theorem ok_is_way {P : Program} {w : World} {K : PySem.W.Frag} {mg : Str → Option Value} {base : Heap} {fa : Addr} {fd : FuncData} (T : Txt K mg) (c_are_rows : Cal P w K mg base "are_rows" ["thing", "many"] 4 m_are_rows) (F : Fun K "is_way" "is_way" s_is_way fa fd) : FnP P w K mg base 5 fa fd ["thing", "many"] m_is_way :=
  fnP_of (N := ["thing", "many"]) (k := 4) F sc_is_way fun cdv A outer s H E hr => by
    have nd : (["thing", "many"] : List Str).Nodup := sc_is_way.nd
    have tk := @takes_of (cxOf (L2.CX P w) P w K mg base ["thing", "many"] "is_way" (defScope s_is_way) fa cdv A outer s H E) E rfl rfl rfl _ rfl
    exact (ppss_cons (pps_if (ppw_or (ppt_not (ppt_v (ppe_isi .tuple (ppb_v 0) T.b_isinstance boot_isi T.b_tuple boot_tuple))) (ppw_or1 (ppt_cmp (os_ne hr.units) (ppe_callB cs_len T.b_len PySem.boot_len (ppba_cons (ppb_v 0) ppba_nil)).bo ppe_int.bo (nomark _)))).pt (ppss_one (pps_ret ppe_bl)) ppss_nil)
    (ppss_cons (pps_if (ppw_or (ppt_not (ppt_v (ppe_cal c_are_rows hr tk (ppa_cons (ppe_ix (ppb_v 0) ppe_int (fun _ _ => rfl)) (ppa_cons (ppe_v 1) ppa_nil))))) (ppw_or1 (ppt_not (ppt_v (ppe_cal c_are_rows hr tk (ppa_cons (ppe_ix (ppb_v 0) ppe_int (fun _ _ => rfl)) (ppa_cons (ppe_v 1) ppa_nil))))))).pt (ppss_one (pps_ret ppe_bl)) ppss_nil)
    (ppss_one (pps_ret (ppe_and (ppe_cmp os_le (ppe_callB cs_len T.b_len PySem.boot_len (ppba_cons (ppe_ix (ppb_v 0) ppe_int (fun _ _ => rfl)).bo ppba_nil)).bo (ppe_gi T.k_MOST_ASKS).bo (nomark _)) (ppe_one (ppe_cmp (os_eq hr.units) (ppe_callB cs_len T.b_len PySem.boot_len (ppba_cons (ppe_ix (ppb_v 0) ppe_int (fun _ _ => rfl)).bo ppba_nil)).bo (ppb_v 1) (nomark _))))))))

abbrev s_is_loop : Stmt := topS 19
theorem sc_is_loop : FnScope ["thing", "way"] ["thing"] (defScope s_is_loop) := ⟨rfl, rfl, rfl, by decide +kernel, rfl, by decide +kernel, by decide +kernel⟩
theorem ok_is_loop {P : Program} {w : World} {K : PySem.W.Frag} {mg : Str → Option Value} {base : Heap} {fa : Addr} {fd : FuncData} (T : Txt K mg) (c_is_whole : Cal P w K mg base "is_whole" ["thing"] 1 m_is_whole) (c_is_way : Cal P w K mg base "is_way" ["thing", "many"] 5 m_is_way) (F : Fun K "is_loop" "is_loop" s_is_loop fa fd) : FnP P w K mg base 6 fa fd ["thing"] m_is_loop :=
  fnP_of (N := ["thing", "way"]) (k := 5) F sc_is_loop fun cdv A outer s H E hr => by
    have nd : (["thing", "way"] : List Str).Nodup := sc_is_loop.nd
    have tk := @takes_of (cxOf (L2.CX P w) P w K mg base ["thing", "way"] "is_loop" (defScope s_is_loop) fa cdv A outer s H E) E rfl rfl rfl _ rfl
    exact (ppss_cons (pps_if (ppw_or (ppt_not (ppt_v (ppe_isi .tuple (ppb_v 0) T.b_isinstance boot_isi T.b_tuple boot_tuple))) (ppw_or (ppt_cmp (os_ne hr.units) (ppe_callB cs_len T.b_len PySem.boot_len (ppba_cons (ppb_v 0) ppba_nil)).bo ppe_int.bo (nomark _)) (ppw_or (ppt_not (ppt_v (ppe_cal c_is_whole hr tk (ppa_cons (ppe_ix (ppb_v 0) ppe_int (fun _ _ => rfl)) ppa_nil)))) (ppw_or1 (ppt_not (ppt_v (ppe_isi .list (ppe_ix (ppb_v 0) ppe_int (fun _ _ => rfl)).bo T.b_isinstance boot_isi T.b_list boot_list))))))).pt (ppss_one (pps_ret ppe_bl)) ppss_nil)
    (ppss_cons (pps_if (ppw_or (ppt_not (ppt_chain os_le os_le ppe_int.bo (ppe_ix (ppb_v 0) ppe_int (fun _ _ => rfl)).bo (ppe_gi T.k_MOST_NAMES).bo)) (ppw_or1 (ppt_not (ppt_chain os_le os_le ppe_int.bo (ppe_callB cs_len T.b_len PySem.boot_len (ppba_cons (ppe_ix (ppb_v 0) ppe_int (fun _ _ => rfl)).bo ppba_nil)).bo (ppe_gi T.k_MOST_WAYS).bo)))).pt (ppss_one (pps_ret ppe_bl)) ppss_nil)
    (ppss_one (pps_ret (ppe_callB (cs_all rfl) T.b_all boot_all (ppba_cons (ppe_comp (own := [("way", 1)]) nd (ppi_list (ppe_ix (ppb_v 0) ppe_int (fun _ _ => rfl)).bo) (by kernel_rfl) (fun _ _ _ _ _ => (ppg_n 1 nd)) (fun _ _ _ _ _ => ppts_nil) (fun _ _ _ _ _ => (ppe_cal c_is_way hr takes0 (ppa_cons (ppe_v 1) (ppa_cons (ppe_ix (ppb_v 0) ppe_int (fun _ _ => rfl)) ppa_nil))))).bo ppba_nil))))))

abbrev s_need_loop : Stmt := topS 20
theorem sc_need_loop : FnScope ["thing"] ["thing"] (defScope s_need_loop) := ⟨rfl, rfl, rfl, by decide +kernel, rfl, by decide +kernel, by decide +kernel⟩
theorem ok_need_loop {P : Program} {w : World} {K : PySem.W.Frag} {mg : Str → Option Value} {base : Heap} {fa : Addr} {fd : FuncData} (T : Txt K mg) (c_is_loop : Cal P w K mg base "is_loop" ["thing"] 6 m_is_loop) (F : Fun K "need_loop" "need_loop" s_need_loop fa fd) : FnP P w K mg base 7 fa fd ["thing"] m_need_loop :=
  fnP_of (N := ["thing"]) (k := 6) F sc_need_loop fun cdv A outer s H E hr => by
    have nd : (["thing"] : List Str).Nodup := sc_need_loop.nd
    have tk := @takes_of (cxOf (L2.CX P w) P w K mg base ["thing"] "need_loop" (defScope s_need_loop) fa cdv A outer s H E) E rfl rfl rfl _ rfl
    exact (ppss_one (pps_if (ppt_not (ppt_v (ppe_cal c_is_loop hr tk (ppa_cons (ppe_v 0) ppa_nil)))) (ppss_one (pps_raise tk PySem.F.excBase_ValueError T.x_BadLoop.xi T.x_BadLoop.gC T.x_BadLoop.kC (raises_own T.x_BadLoop.bC T.x_BadLoop.tC))) ppss_nil))

abbrev s_after : Stmt := topS 24
theorem sc_after : FnScope ["loop", "number", "state"] ["loop", "number", "state"] (defScope s_after) := ⟨rfl, rfl, rfl, by decide +kernel, rfl, by decide +kernel, by decide +kernel⟩
theorem ok_after {P : Program} {w : World} {K : PySem.W.Frag} {mg : Str → Option Value} {base : Heap} {fa : Addr} {fd : FuncData} (T : Txt K mg) (c_need_loop : Cal P w K mg base "need_loop" ["thing"] 7 m_need_loop) (F : Fun K "after" "after" s_after fa fd) : FnP P w K mg base 8 fa fd ["loop", "number", "state"] m_after :=
  fnP_of (N := ["loop", "number", "state"]) (k := 7) F sc_after fun cdv A outer s H E hr => by
    have nd : (["loop", "number", "state"] : List Str).Nodup := sc_after.nd
    have tk := @takes_of (cxOf (L2.CX P w) P w K mg base ["loop", "number", "state"] "after" (defScope s_after) fa cdv A outer s H E) E rfl rfl rfl _ rfl
    exact (ppss_cons (pps_do (ppe_cal c_need_loop hr tk (ppa_cons (ppe_v 0) ppa_nil))) ppss_stk)

abbrev s_run : Stmt := topS 26
theorem sc_run : FnScope ["loop", "state", "most", "found", "here", "one"] ["loop", "state", "most"] (defScope s_run) := ⟨rfl, rfl, rfl, by decide +kernel, rfl, by decide +kernel, by decide +kernel⟩
theorem ok_run {P : Program} {w : World} {K : PySem.W.Frag} {mg : Str → Option Value} {base : Heap} {fa : Addr} {fd : FuncData} (T : Txt K mg) (c_need_loop : Cal P w K mg base "need_loop" ["thing"] 7 m_need_loop) (F : Fun K "run" "run" s_run fa fd) : FnP P w K mg base 8 fa fd ["loop", "state", "most"] m_run :=
  fnP_of (N := ["loop", "state", "most", "found", "here", "one"]) (k := 7) F sc_run fun cdv A outer s H E hr => by
    have nd : (["loop", "state", "most", "found", "here", "one"] : List Str).Nodup := sc_run.nd
    have tk := @takes_of (cxOf (L2.CX P w) P w K mg base ["loop", "state", "most", "found", "here", "one"] "run" (defScope s_run) fa cdv A outer s H E) E rfl rfl rfl _ rfl
    exact (ppss_cons (pps_do (ppe_cal c_need_loop hr tk (ppa_cons (ppe_v 0) ppa_nil))) ppss_stk)

abbrev s_is_reason : Stmt := topS 46
theorem sc_is_reason : FnScope ["loop", "gauge", "reason", "way", "thing"] ["loop", "gauge", "reason"] (defScope s_is_reason) := ⟨rfl, rfl, rfl, by decide +kernel, rfl, by decide +kernel, by decide +kernel⟩
theorem ok_is_reason {P : Program} {w : World} {K : PySem.W.Frag} {mg : Str → Option Value} {base : Heap} {fa : Addr} {fd : FuncData} (T : Txt K mg) (c_need_loop : Cal P w K mg base "need_loop" ["thing"] 7 m_need_loop) (F : Fun K "is_reason" "is_reason" s_is_reason fa fd) : FnP P w K mg base 8 fa fd ["loop", "gauge", "reason"] m_is_reason :=
  fnP_of (N := ["loop", "gauge", "reason", "way", "thing"]) (k := 7) F sc_is_reason fun cdv A outer s H E hr => by
    have nd : (["loop", "gauge", "reason", "way", "thing"] : List Str).Nodup := sc_is_reason.nd
    have tk := @takes_of (cxOf (L2.CX P w) P w K mg base ["loop", "gauge", "reason", "way", "thing"] "is_reason" (defScope s_is_reason) fa cdv A outer s H E) E rfl rfl rfl _ rfl
    exact (ppss_cons (pps_do (ppe_cal c_need_loop hr tk (ppa_cons (ppe_v 0) ppa_nil))) ppss_stk)

abbrev s_are_spots : Stmt := topS 50
theorem sc_are_spots : FnScope ["loop", "spots", "many", "total", "lasts", "way", "thing", "more", "place"] ["loop", "spots"] (defScope s_are_spots) := ⟨rfl, rfl, rfl, by decide +kernel, rfl, by decide +kernel, by decide +kernel⟩
theorem ok_are_spots {P : Program} {w : World} {K : PySem.W.Frag} {mg : Str → Option Value} {base : Heap} {fa : Addr} {fd : FuncData} (T : Txt K mg) (c_need_loop : Cal P w K mg base "need_loop" ["thing"] 7 m_need_loop) (F : Fun K "are_spots" "are_spots" s_are_spots fa fd) : FnP P w K mg base 8 fa fd ["loop", "spots"] m_are_spots :=
  fnP_of (N := ["loop", "spots", "many", "total", "lasts", "way", "thing", "more", "place"]) (k := 7) F sc_are_spots fun cdv A outer s H E hr => by
    have nd : (["loop", "spots", "many", "total", "lasts", "way", "thing", "more", "place"] : List Str).Nodup := sc_are_spots.nd
    have tk := @takes_of (cxOf (L2.CX P w) P w K mg base ["loop", "spots", "many", "total", "lasts", "way", "thing", "more", "place"] "are_spots" (defScope s_are_spots) fa cdv A outer s H E) E rfl rfl rfl _ rfl
    exact (ppss_cons (pps_do (ppe_cal c_need_loop hr tk (ppa_cons (ppe_v 0) ppa_nil))) ppss_stk)

abbrev s_told : Stmt := topS 56
theorem sc_told : FnScope ["loop", "many", "points", "way", "ways", "point", "lines", "wanted", "found"] ["loop"] (defScope s_told) := ⟨rfl, rfl, rfl, by decide +kernel, rfl, by decide +kernel, by decide +kernel⟩
theorem ok_told {P : Program} {w : World} {K : PySem.W.Frag} {mg : Str → Option Value} {base : Heap} {fa : Addr} {fd : FuncData} (T : Txt K mg) (c_need_loop : Cal P w K mg base "need_loop" ["thing"] 7 m_need_loop) (F : Fun K "told" "told" s_told fa fd) : FnP P w K mg base 8 fa fd ["loop"] m_told :=
  fnP_of (N := ["loop", "many", "points", "way", "ways", "point", "lines", "wanted", "found"]) (k := 7) F sc_told fun cdv A outer s H E hr => by
    have nd : (["loop", "many", "points", "way", "ways", "point", "lines", "wanted", "found"] : List Str).Nodup := sc_told.nd
    have tk := @takes_of (cxOf (L2.CX P w) P w K mg base ["loop", "many", "points", "way", "ways", "point", "lines", "wanted", "found"] "told" (defScope s_told) fa cdv A outer s H E) E rfl rfl rfl _ rfl
    exact (ppss_cons (pps_do (ppe_cal c_need_loop hr tk (ppa_cons (ppe_v 0) ppa_nil))) ppss_stk)

abbrev s_most_turns : Stmt := topS 57
theorem sc_most_turns : FnScope ["loop", "gauge", "state", "here"] ["loop", "gauge", "state"] (defScope s_most_turns) := ⟨rfl, rfl, rfl, by decide +kernel, rfl, by decide +kernel, by decide +kernel⟩
theorem ok_most_turns {P : Program} {w : World} {K : PySem.W.Frag} {mg : Str → Option Value} {base : Heap} {fa : Addr} {fd : FuncData} (T : Txt K mg) (c_need_loop : Cal P w K mg base "need_loop" ["thing"] 7 m_need_loop) (F : Fun K "most_turns" "most_turns" s_most_turns fa fd) : FnP P w K mg base 8 fa fd ["loop", "gauge", "state"] m_most_turns :=
  fnP_of (N := ["loop", "gauge", "state", "here"]) (k := 7) F sc_most_turns fun cdv A outer s H E hr => by
    have nd : (["loop", "gauge", "state", "here"] : List Str).Nodup := sc_most_turns.nd
    have tk := @takes_of (cxOf (L2.CX P w) P w K mg base ["loop", "gauge", "state", "here"] "most_turns" (defScope s_most_turns) fa cdv A outer s H E) E rfl rfl rfl _ rfl
    exact (ppss_cons (pps_do (ppe_cal c_need_loop hr tk (ppa_cons (ppe_v 0) ppa_nil))) ppss_stk)

abbrev s_row_text : Stmt := topS 59
theorem sc_row_text : FnScope ["word", "row", "one"] ["word", "row"] (defScope s_row_text) := ⟨rfl, rfl, rfl, by decide +kernel, rfl, by decide +kernel, by decide +kernel⟩
theorem ok_row_text {P : Program} {w : World} {K : PySem.W.Frag} {mg : Str → Option Value} {base : Heap} {fa : Addr} {fd : FuncData} (T : Txt K mg) (F : Fun K "row_text" "row_text" s_row_text fa fd) : FnP P w K mg base 1 fa fd ["word", "row"] m_row_text :=
  fnP_of (N := ["word", "row", "one"]) (k := 0) F sc_row_text fun cdv A outer s H E hr => by
    have nd : (["word", "row", "one"] : List Str).Nodup := sc_row_text.nd
    have tk := @takes_of (cxOf (L2.CX P w) P w K mg base ["word", "row", "one"] "row_text" (defScope s_row_text) fa cdv A outer s H E) E rfl rfl rfl _ rfl
    exact (ppss_one (pps_ret (ppe_join ppe_str.bo (ppe_op os_add (ppe_list (ppa_cons (ppe_v 0) ppa_nil)).bo (ppe_comp (own := [("one", 2)]) nd (ppi_list (ppb_v 1)) (by kernel_rfl) (fun _ _ _ _ _ => (ppg_n 2 nd)) (fun _ _ _ _ _ => ppts_nil) (fun _ _ _ _ _ => (ppe_callTy cs_str T.b_str boot_str (ppba_cons (ppb_v 2) ppba_nil)))).bo).bo)))

abbrev s_written : Stmt := topS 60
theorem sc_written : FnScope ["loop", "found", "way", "row"] ["loop"] (defScope s_written) := ⟨rfl, rfl, rfl, by decide +kernel, rfl, by decide +kernel, by decide +kernel⟩
theorem ok_written {P : Program} {w : World} {K : PySem.W.Frag} {mg : Str → Option Value} {base : Heap} {fa : Addr} {fd : FuncData} (T : Txt K mg) (c_need_loop : Cal P w K mg base "need_loop" ["thing"] 7 m_need_loop) (c_row_text : Cal P w K mg base "row_text" ["word", "row"] 1 m_row_text) (F : Fun K "written" "written" s_written fa fd) : FnP P w K mg base 8 fa fd ["loop"] m_written :=
  fnP_of (N := ["loop", "found", "way", "row"]) (k := 7) F sc_written fun cdv A outer s H E hr => by
    have nd : (["loop", "found", "way", "row"] : List Str).Nodup := sc_written.nd
    have tk := @takes_of (cxOf (L2.CX P w) P w K mg base ["loop", "found", "way", "row"] "written" (defScope s_written) fa cdv A outer s H E) E rfl rfl rfl _ rfl
    have hpo : PassesOwn (model P w) (cxOf (L2.CX P w) P w K mg base ["loop", "found", "way", "row"] "written" (defScope s_written) fa cdv A outer s H E).A (cxOf (L2.CX P w) P w K mg base ["loop", "found", "way", "row"] "written" (defScope s_written) fa cdv A outer s H E).env (cxOf (L2.CX P w) P w K mg base ["loop", "found", "way", "row"] "written" (defScope s_written) fa cdv A outer s H E).xe := passes_of rfl
    exact (ppss_cons (pps_do (ppe_cal c_need_loop hr tk (ppa_cons (ppe_v 0) ppa_nil)))
    (ppss_cons (pps_own 1 nd (ppf_list (ppa_cons (ppe_op os_add ppe_str.bo (ppe_callTy cs_str T.b_str boot_str (ppba_cons (ppe_ix (ppb_v 0) ppe_int (fun _ _ => rfl)).bo ppba_nil)).bo) ppa_nil)))
    (ppss_cons (pps_for hpo (ppi_listS (ppe_ix (ppb_v 0) ppe_int (fun _ _ => rfl))) (ppg_n 2 nd) (ppss_cons (pps_app 1 ppe_str)
    (ppss_cons (pps_ext 1 (ppe_comp (own := [("row", 3)]) nd (ppi_list (ppe_ix (ppb_v 2) ppe_int (fun _ _ => rfl)).bo) (by kernel_rfl) (fun _ _ _ _ _ => (ppg_n 3 nd)) (fun _ _ _ _ _ => ppts_nil) (fun _ _ _ _ _ => (ppe_cal c_row_text hr takes0 (ppa_cons ppe_str (ppa_cons (ppe_v 3) ppa_nil))))).bo)
    (ppss_one (pps_ext 1 (ppe_comp (own := [("row", 3)]) nd (ppi_list (ppe_ix (ppb_v 2) ppe_int (fun _ _ => rfl)).bo) (by kernel_rfl) (fun _ _ _ _ _ => (ppg_n 3 nd)) (fun _ _ _ _ _ => ppts_nil) (fun _ _ _ _ _ => (ppe_cal c_row_text hr takes0 (ppa_cons ppe_str (ppa_cons (ppe_v 3) ppa_nil))))).bo)))))
    (ppss_one (pps_ret (ppe_join ppe_str.bo (ppb_v 1)))))))

abbrev s_law_cell_at : Stmt := topS 62
theorem sc_law_cell_at : FnScope ["_law_script", "_law_k"] ["_law_script", "_law_k"] (defScope s_law_cell_at) := ⟨rfl, rfl, rfl, by decide +kernel, rfl, by decide +kernel, by decide +kernel⟩
theorem ok_law_cell_at {P : Program} {w : World} {K : PySem.W.Frag} {mg : Str → Option Value} {base : Heap} {fa : Addr} {fd : FuncData} (T : Txt K mg) (F : Fun K "_law_cell_at" "_law_cell_at" s_law_cell_at fa fd) : FnP P w K mg base 1 fa fd ["_law_script", "_law_k"] m_law_cell_at :=
  fnP_of (N := ["_law_script", "_law_k"]) (k := 0) F sc_law_cell_at fun cdv A outer s H E hr => by
    have nd : (["_law_script", "_law_k"] : List Str).Nodup := sc_law_cell_at.nd
    have tk := @takes_of (cxOf (L2.CX P w) P w K mg base ["_law_script", "_law_k"] "_law_cell_at" (defScope s_law_cell_at) fa cdv A outer s H E) E rfl rfl rfl _ rfl
    exact (ppss_cons (pps_if (ppt_cmp os_lt (ppb_v 1) (ppe_callB cs_len T.b_len PySem.boot_len (ppba_cons (ppb_v 0) ppba_nil)).bo (nomark _)) (ppss_one (pps_ret (ppe_ix (ppb_v 0) (ppe_v 1) (fun _ _ => rfl)))) ppss_nil)
    (ppss_one (pps_ret ppe_int)))

abbrev s_law_drawn : Stmt := topS 63
theorem sc_law_drawn : FnScope ["_law_seed", "_law_k", "_law_mixed"] ["_law_seed", "_law_k"] (defScope s_law_drawn) := ⟨rfl, rfl, rfl, by decide +kernel, rfl, by decide +kernel, by decide +kernel⟩
theorem ok_law_drawn {P : Program} {w : World} {K : PySem.W.Frag} {mg : Str → Option Value} {base : Heap} {fa : Addr} {fd : FuncData} (T : Txt K mg) (F : Fun K "_law_drawn" "_law_drawn" s_law_drawn fa fd) : FnP P w K mg base 1 fa fd ["_law_seed", "_law_k"] m_law_drawn :=
  fnP_of (N := ["_law_seed", "_law_k", "_law_mixed"]) (k := 0) F sc_law_drawn fun cdv A outer s H E hr => by
    have nd : (["_law_seed", "_law_k", "_law_mixed"] : List Str).Nodup := sc_law_drawn.nd
    have tk := @takes_of (cxOf (L2.CX P w) P w K mg base ["_law_seed", "_law_k", "_law_mixed"] "_law_drawn" (defScope s_law_drawn) fa cdv A outer s H E) E rfl rfl rfl _ rfl
    exact (ppss_cons (pps_set 2 nd (ppe_op os_mod (ppe_op os_mul (ppe_op os_add (ppe_op os_add (ppb_v 0) (ppe_op os_mul ppe_int.bo (ppb_v 1)).bo).bo ppe_int.bo).bo ppe_int.bo).bo ppe_int.bo))
    (ppss_one (pps_ret (ppe_op os_div (ppe_op os_mod (ppe_op os_mul (ppe_op os_add (ppe_op os_div (ppb_v 2) ppe_int.bo).bo (ppb_v 1)).bo ppe_int.bo).bo ppe_int.bo).bo ppe_int.bo))))

abbrev s_law_row_by : Stmt := topS 64
theorem sc_law_row_by : FnScope ["_law_cell", "_law_k", "_law_many", "_law_j"] ["_law_cell", "_law_k", "_law_many"] (defScope s_law_row_by) := ⟨rfl, rfl, rfl, by decide +kernel, rfl, by decide +kernel, by decide +kernel⟩
theorem ok_law_row_by {P : Program} {w : World} {K : PySem.W.Frag} {mg : Str → Option Value} {base : Heap} {fa : Addr} {fd : FuncData} (T : Txt K mg) (c_law_drawn : Cal P w K mg base "_law_drawn" ["_law_seed", "_law_k"] 1 m_law_drawn) (F : Fun K "_law_row_by" "_law_row_by" s_law_row_by fa fd) : FnP P w K mg base 2 fa fd ["_law_cell", "_law_k", "_law_many"] m_law_row_by :=
  fnP_of (N := ["_law_cell", "_law_k", "_law_many", "_law_j"]) (k := 1) F sc_law_row_by fun cdv A outer s H E hr => by
    have nd : (["_law_cell", "_law_k", "_law_many", "_law_j"] : List Str).Nodup := sc_law_row_by.nd
    have tk := @takes_of (cxOf (L2.CX P w) P w K mg base ["_law_cell", "_law_k", "_law_many", "_law_j"] "_law_row_by" (defScope s_law_row_by) fa cdv A outer s H E) E rfl rfl rfl _ rfl
    exact (ppss_cons (pps_if (ppt_cmp (os_eq hr.units) (ppe_op os_mod (ppe_cal c_law_drawn hr tk (ppa_cons (ppe_v 0) (ppa_cons (ppe_op os_add (ppe_op os_mul ppe_int.bo (ppb_v 1)).bo ppe_int.bo) ppa_nil))).bo ppe_int.bo).bo ppe_int.bo (nomark _)) (ppss_one (pps_ret (ppe_comp (own := [("_law_j", 3)]) nd (ppi_r1 T.b_range (ppe_op os_add (ppb_v 2) ppe_int.bo)) (by kernel_rfl) (fun _ _ _ _ _ => (ppg_n 3 nd)) (fun _ _ _ _ _ => ppts_nil) (fun _ _ _ _ _ => (ppe_op os_sub (ppe_op os_mod (ppe_cal c_law_drawn hr takes0 (ppa_cons (ppe_v 0) (ppa_cons (ppe_op os_add (ppe_op os_mul ppe_int.bo (ppb_v 1)).bo (ppb_v 3)) ppa_nil))).bo ppe_int.bo).bo ppe_int.bo))))) ppss_nil)
    (ppss_one (pps_ret (ppe_op os_add (ppe_comp (own := [("_law_j", 3)]) nd (ppi_r1 T.b_range (ppe_v 2)) (by kernel_rfl) (fun _ _ _ _ _ => (ppg_n 3 nd)) (fun _ _ _ _ _ => ppts_nil) (fun _ _ _ _ _ => (ppe_op os_sub (ppe_op os_mod (ppe_cal c_law_drawn hr takes0 (ppa_cons (ppe_v 0) (ppa_cons (ppe_op os_add (ppe_op os_mul ppe_int.bo (ppb_v 1)).bo (ppb_v 3)) ppa_nil))).bo ppe_int.bo).bo ppe_int.bo))).bo (ppe_list (ppa_cons (ppe_op os_sub (ppe_op os_mod (ppe_cal c_law_drawn hr tk (ppa_cons (ppe_v 0) (ppa_cons (ppe_op os_add (ppe_op os_mul ppe_int.bo (ppb_v 1)).bo ppe_int.bo) ppa_nil))).bo ppe_int.bo).bo ppe_int.bo) ppa_nil)).bo))))

abbrev s_law_way_by : Stmt := topS 65
theorem sc_law_way_by : FnScope ["_law_cell", "_law_many", "_law_mode", "_law_asks", "_law_k", "_law_gives", "_law_steps", "_law_j", "_law_one", "_law_row"] ["_law_cell", "_law_many"] (defScope s_law_way_by) := ⟨rfl, rfl, rfl, by decide +kernel, rfl, by decide +kernel, by decide +kernel⟩
theorem ok_law_way_by {P : Program} {w : World} {K : PySem.W.Frag} {mg : Str → Option Value} {base : Heap} {fa : Addr} {fd : FuncData} (T : Txt K mg) (c_law_drawn : Cal P w K mg base "_law_drawn" ["_law_seed", "_law_k"] 1 m_law_drawn) (c_law_row_by : Cal P w K mg base "_law_row_by" ["_law_cell", "_law_k", "_law_many"] 2 m_law_row_by) (F : Fun K "_law_way_by" "_law_way_by" s_law_way_by fa fd) : FnP P w K mg base 3 fa fd ["_law_cell", "_law_many"] m_law_way_by :=
  fnP_of (N := ["_law_cell", "_law_many", "_law_mode", "_law_asks", "_law_k", "_law_gives", "_law_steps", "_law_j", "_law_one", "_law_row"]) (k := 2) F sc_law_way_by fun cdv A outer s H E hr => by
    have nd : (["_law_cell", "_law_many", "_law_mode", "_law_asks", "_law_k", "_law_gives", "_law_steps", "_law_j", "_law_one", "_law_row"] : List Str).Nodup := sc_law_way_by.nd
    have tk := @takes_of (cxOf (L2.CX P w) P w K mg base ["_law_cell", "_law_many", "_law_mode", "_law_asks", "_law_k", "_law_gives", "_law_steps", "_law_j", "_law_one", "_law_row"] "_law_way_by" (defScope s_law_way_by) fa cdv A outer s H E) E rfl rfl rfl _ rfl
    exact (ppss_cons (pps_set 2 nd (ppe_op os_mod (ppe_cal c_law_drawn hr tk (ppa_cons (ppe_v 0) (ppa_cons ppe_int ppa_nil))).bo ppe_int.bo))
    (ppss_cons (pps_setC 3 (own := [("_law_k", 4)]) (hN := nd) (hi := (ppi_r1 T.b_range (ppe_op os_mod (ppe_cal c_law_drawn hr tk (ppa_cons (ppe_v 0) (ppa_cons ppe_int ppa_nil))).bo ppe_int.bo))) (ok := by kernel_rfl) (hg := (fun _ _ _ _ _ => (ppg_n 4 nd))) (ht := (fun _ _ _ _ _ => ppts_nil)) (he := (fun _ _ _ _ _ => (ppe_cal c_law_row_by hr takes0 (ppa_cons (ppe_v 0) (ppa_cons (ppe_op os_add ppe_int.bo (ppb_v 4)) (ppa_cons (ppe_v 1) ppa_nil)))))))
    (ppss_cons (pps_setC 5 (own := [("_law_k", 4)]) (hN := nd) (hi := (ppi_r1 T.b_range (ppe_v 1))) (ok := by kernel_rfl) (hg := (fun _ _ _ _ _ => (ppg_n 4 nd))) (ht := (fun _ _ _ _ _ => ppts_nil)) (he := (fun _ _ _ _ _ => (ppe_cal c_law_row_by hr takes0 (ppa_cons (ppe_v 0) (ppa_cons (ppe_op os_add ppe_int.bo (ppb_v 4)) (ppa_cons (ppe_v 1) ppa_nil)))))))
    (ppss_cons (pps_set 6 nd (ppe_comp (own := [("_law_k", 4)]) nd (ppi_r1 T.b_range (ppe_v 1)) (by kernel_rfl) (fun _ _ _ _ _ => (ppg_n 4 nd)) (fun _ _ _ _ _ => ppts_nil) (fun _ _ _ _ _ => (ppe_op os_sub (ppe_op os_mod (ppe_cal c_law_drawn hr takes0 (ppa_cons (ppe_v 0) (ppa_cons (ppe_op os_add ppe_int.bo (ppb_v 4)) ppa_nil))).bo ppe_int.bo).bo ppe_int.bo))))
    (ppss_cons (pps_if (ppw_or (ppt_cmp (os_eq hr.units) (ppb_v 2) ppe_int.bo (nomark _)) (ppw_or1 (ppt_cmp (os_eq hr.units) (ppb_v 2) ppe_int.bo (nomark _)))).pt (ppss_one (pps_setC 5 (own := [("_law_k", 4)]) (hN := nd) (hi := (ppi_r1 T.b_range (ppe_v 1))) (ok := by kernel_rfl) (hg := (fun _ _ _ _ _ => (ppg_n 4 nd))) (ht := (fun _ _ _ _ _ => ppts_nil)) (he := (fun _ _ _ _ _ => (ppe_op os_add (ppe_comp (own := [("_law_j", 7)]) nd (ppi_r1 T.b_range (ppe_v 1)) (by kernel_rfl) (fun _ _ _ _ _ => (ppg_n 7 nd)) (fun _ _ _ _ _ => ppts_nil) (fun _ _ _ _ _ => (ppe_callTy cs_int T.b_int boot_int (ppba_cons (ppe_cmp (os_eq hr.units) (ppb_v 7) (ppb_v 4) (nomark _)).bo ppba_nil)))).bo (ppe_list (ppa_cons (ppe_ix (ppb_v 6) (ppe_v 4) (fun _ _ => rfl)) ppa_nil)).bo))))) ppss_nil)
    (ppss_cons (pps_if (ppt_cmp (os_eq hr.units) (ppb_v 2) ppe_int.bo (nomark _)) (ppss_one (pps_set 3 nd (ppe_op os_add (ppb_v 3) (ppe_list (ppa_cons (ppe_op os_add (ppe_comp (own := [("_law_one", 8)]) nd (ppi_list (ppb_v 6)) (by kernel_rfl) (fun _ _ _ _ _ => (ppg_n 8 nd)) (fun _ _ _ _ _ => ppts_nil) (fun _ _ _ _ _ => (ppe_op os_sub ppe_int.bo (ppb_v 8)))).bo (ppe_list (ppa_cons (ppe_op os_mod (ppe_cal c_law_drawn hr tk (ppa_cons (ppe_v 0) (ppa_cons ppe_int ppa_nil))).bo ppe_int.bo) ppa_nil)).bo) ppa_nil)).bo))) ppss_nil)
    (ppss_cons (pps_if (ppt_cmp (os_eq hr.units) (ppb_v 2) ppe_int.bo (nomark _)) (ppss_one (pps_setC 5 (own := [("_law_row", 9)]) (hN := nd) (hi := (ppi_list (ppb_v 5))) (ok := by kernel_rfl) (hg := (fun _ _ _ _ _ => (ppg_n 9 nd))) (ht := (fun _ _ _ _ _ => ppts_nil)) (he := (fun _ _ _ _ _ => (ppe_op os_add (ppe_op os_mul (ppe_list (ppa_cons ppe_int ppa_nil)).bo (ppb_v 1)).bo (ppe_sl (ppb_v 9) (ppo_some (ppe_v 1)) ppo_none).bo))))) ppss_nil)
    (ppss_one (pps_ret (ppe_tup (ppa_cons (ppe_v 3) (ppa_cons (ppe_v 5) ppa_nil))))))))))))

abbrev s_law_far : Stmt := topS 66
theorem sc_law_far : FnScope ["_law_row", "_law_one"] ["_law_row"] (defScope s_law_far) := ⟨rfl, rfl, rfl, by decide +kernel, rfl, by decide +kernel, by decide +kernel⟩
theorem ok_law_far {P : Program} {w : World} {K : PySem.W.Frag} {mg : Str → Option Value} {base : Heap} {fa : Addr} {fd : FuncData} (T : Txt K mg) (F : Fun K "_law_far" "_law_far" s_law_far fa fd) : FnP P w K mg base 1 fa fd ["_law_row"] m_law_far :=
  fnP_of (N := ["_law_row", "_law_one"]) (k := 0) F sc_law_far fun cdv A outer s H E hr => by
    have nd : (["_law_row", "_law_one"] : List Str).Nodup := sc_law_far.nd
    have tk := @takes_of (cxOf (L2.CX P w) P w K mg base ["_law_row", "_law_one"] "_law_far" (defScope s_law_far) fa cdv A outer s H E) E rfl rfl rfl _ rfl
    exact (ppss_one (pps_ret (ppe_comp (own := [("_law_one", 1)]) nd (ppi_list (ppb_v 0)) (by kernel_rfl) (fun _ _ _ _ _ => (ppg_n 1 nd)) (fun _ _ _ _ _ => ppts_nil) (fun _ _ _ _ _ => (ppe_callB (cs_max2 rfl) T.b_max boot_max (ppba_cons (ppe_un us_neg ppe_int.bo).bo (ppba_cons (ppe_callB (cs_min2 rfl) T.b_min boot_min (ppba_cons ppe_int.bo (ppba_cons (ppe_op os_mul ppe_int.bo (ppb_v 1)).bo ppba_nil))).bo ppba_nil)))))))

abbrev s_law_loop_by : Stmt := topS 67
theorem sc_law_loop_by : FnScope ["_law_script", "_law_at", "_law_first", "_law_many", "_law_size", "_law_ways", "_law_k", "_law_far_here", "_law_asks", "_law_gives", "_law_row"] ["_law_script", "_law_at"] (defScope s_law_loop_by) := ⟨rfl, rfl, rfl, by decide +kernel, rfl, by decide +kernel, by decide +kernel⟩
theorem ok_law_loop_by {P : Program} {w : World} {K : PySem.W.Frag} {mg : Str → Option Value} {base : Heap} {fa : Addr} {fd : FuncData} (T : Txt K mg) (c_law_cell_at : Cal P w K mg base "_law_cell_at" ["_law_script", "_law_k"] 1 m_law_cell_at) (c_law_way_by : Cal P w K mg base "_law_way_by" ["_law_cell", "_law_many"] 3 m_law_way_by) (c_law_far : Cal P w K mg base "_law_far" ["_law_row"] 1 m_law_far) (F : Fun K "_law_loop_by" "_law_loop_by" s_law_loop_by fa fd) : FnP P w K mg base 4 fa fd ["_law_script", "_law_at"] m_law_loop_by :=
  fnP_of (N := ["_law_script", "_law_at", "_law_first", "_law_many", "_law_size", "_law_ways", "_law_k", "_law_far_here", "_law_asks", "_law_gives", "_law_row"]) (k := 3) F sc_law_loop_by fun cdv A outer s H E hr => by
    have nd : (["_law_script", "_law_at", "_law_first", "_law_many", "_law_size", "_law_ways", "_law_k", "_law_far_here", "_law_asks", "_law_gives", "_law_row"] : List Str).Nodup := sc_law_loop_by.nd
    have tk := @takes_of (cxOf (L2.CX P w) P w K mg base ["_law_script", "_law_at", "_law_first", "_law_many", "_law_size", "_law_ways", "_law_k", "_law_far_here", "_law_asks", "_law_gives", "_law_row"] "_law_loop_by" (defScope s_law_loop_by) fa cdv A outer s H E) E rfl rfl rfl _ rfl
    have hpo : PassesOwn (model P w) (cxOf (L2.CX P w) P w K mg base ["_law_script", "_law_at", "_law_first", "_law_many", "_law_size", "_law_ways", "_law_k", "_law_far_here", "_law_asks", "_law_gives", "_law_row"] "_law_loop_by" (defScope s_law_loop_by) fa cdv A outer s H E).A (cxOf (L2.CX P w) P w K mg base ["_law_script", "_law_at", "_law_first", "_law_many", "_law_size", "_law_ways", "_law_k", "_law_far_here", "_law_asks", "_law_gives", "_law_row"] "_law_loop_by" (defScope s_law_loop_by) fa cdv A outer s H E).env (cxOf (L2.CX P w) P w K mg base ["_law_script", "_law_at", "_law_first", "_law_many", "_law_size", "_law_ways", "_law_k", "_law_far_here", "_law_asks", "_law_gives", "_law_row"] "_law_loop_by" (defScope s_law_loop_by) fa cdv A outer s H E).xe := passes_of rfl
    exact (ppss_cons (pps_set 2 nd (ppe_cal c_law_cell_at hr tk (ppa_cons (ppe_v 0) (ppa_cons (ppe_v 1) ppa_nil))))
    (ppss_cons (pps_set 3 nd (ppe_ix (ppe_list (ppa_cons ppe_int (ppa_cons ppe_int (ppa_cons ppe_int (ppa_cons ppe_int (ppa_cons ppe_int (ppa_cons ppe_int (ppa_cons ppe_int (ppa_cons ppe_int ppa_nil))))))))).bo (ppe_op os_mod (ppb_v 2) ppe_int.bo) (fun _ _ => rfl)))
    (ppss_cons (pps_set 4 nd (ppe_ix (ppe_list (ppa_cons ppe_int (ppa_cons ppe_int (ppa_cons ppe_int (ppa_cons ppe_int (ppa_cons ppe_int (ppa_cons ppe_int (ppa_cons ppe_int ppa_nil)))))))).bo (ppe_op os_mod (ppe_op os_div (ppb_v 2) ppe_int.bo).bo ppe_int.bo) (fun _ _ => rfl)))
    (ppss_cons (pps_setC 5 (own := [("_law_k", 6)]) (hN := nd) (hi := (ppi_r1 T.b_range (ppe_v 4))) (ok := by kernel_rfl) (hg := (fun _ _ _ _ _ => (ppg_n 6 nd))) (ht := (fun _ _ _ _ _ => ppts_nil)) (he := (fun _ _ _ _ _ => (ppe_cal c_law_way_by hr takes0 (ppa_cons (ppe_cal c_law_cell_at hr takes0 (ppa_cons (ppe_v 0) (ppa_cons (ppe_op os_add (ppe_op os_add (ppb_v 1) ppe_int.bo).bo (ppb_v 6)) ppa_nil))) (ppa_cons (ppe_v 3) ppa_nil))))))
    (ppss_cons (pps_if (ppt_cmp (os_eq hr.units) (ppe_op os_mod (ppe_op os_div (ppb_v 2) ppe_int.bo).bo ppe_int.bo).bo ppe_int.bo (nomark _)) (ppss_cons (pps_own 7 nd (ppf_list ppa_nil))
    (ppss_cons (pps_for hpo (ppi_listS (ppe_v 5)) (ppg_t rfl (ppgs_cons (ppg_n 8 nd) (ppgs_cons (ppg_n 9 nd) ppgs_nil))) (ppss_one (pps_app 7 (ppe_tup (ppa_cons (ppe_comp (own := [("_law_row", 10)]) nd (ppi_list (ppb_v 8)) (by kernel_rfl) (fun _ _ _ _ _ => (ppg_n 10 nd)) (fun _ _ _ _ _ => ppts_nil) (fun _ _ _ _ _ => (ppe_cal c_law_far hr takes0 (ppa_cons (ppe_v 10) ppa_nil)))) (ppa_cons (ppe_comp (own := [("_law_row", 10)]) nd (ppi_list (ppb_v 9)) (by kernel_rfl) (fun _ _ _ _ _ => (ppg_n 10 nd)) (fun _ _ _ _ _ => ppts_nil) (fun _ _ _ _ _ => (ppe_cal c_law_far hr takes0 (ppa_cons (ppe_v 10) ppa_nil)))) ppa_nil))))))
    (ppss_one (pps_frz 7 (pps_set 5 nd (ppe_v 7)))))) ppss_nil)
    (ppss_one (pps_ret (ppe_tup (ppa_cons (ppe_v 3) (ppa_cons (ppe_v 5) ppa_nil))))))))))

abbrev s_law_name_of : Stmt := topS 68
theorem sc_law_name_of : FnScope ["_law_error", "_law_found"] ["_law_error"] (defScope s_law_name_of) := ⟨rfl, rfl, rfl, by decide +kernel, rfl, by decide +kernel, by decide +kernel⟩
theorem ok_law_name_of {P : Program} {w : World} {K : PySem.W.Frag} {mg : Str → Option Value} {base : Heap} {fa : Addr} {fd : FuncData} (T : Txt K mg) {Dc : Addr} {res : Str} {qBadLoop qBadState qBadCount qBadGauge qBadTable qBadText qValueError : Bool} (EC : ExcC K Dc) (kBadLoop : PySem.W.kitOne K (.ref Dc) (.ref T.c_BadLoop) = some qBadLoop) (kBadState : PySem.W.kitOne K (.ref Dc) (.ref T.c_BadState) = some qBadState) (kBadCount : PySem.W.kitOne K (.ref Dc) (.ref T.c_BadCount) = some qBadCount) (kBadGauge : PySem.W.kitOne K (.ref Dc) (.ref T.c_BadGauge) = some qBadGauge) (kBadTable : PySem.W.kitOne K (.ref Dc) (.ref T.c_BadTable) = some qBadTable) (kBadText : PySem.W.kitOne K (.ref Dc) (.ref T.c_BadText) = some qBadText) (kValueError : PySem.W.kitOne K (.ref Dc) (.type "ValueError") = some qValueError) (hres : ∀ a, b_law_name_of a qBadLoop qBadState qBadCount qBadGauge qBadTable qBadText qValueError (.sh (adr a) :: List.replicate 1 .no) = .ret (.str res)) (F : Fun K "_law_name_of" "_law_name_of" s_law_name_of fa fd) : FnX P w K mg base 1 fa fd ["_law_error"] Dc res :=
  fnX_of (N := ["_law_error", "_law_found"]) (k := 0) F sc_law_name_of fun cdv A outer s H E p hz hf => by
    have nd : (["_law_error", "_law_found"] : List Str).Nodup := sc_law_name_of.nd
    refine ⟨b_law_name_of p.1 qBadLoop qBadState qBadCount qBadGauge qBadTable qBadText qValueError, ?_, hres p.1⟩
    have hp : p ∈ (L2H.cxH (L2.CX P w) P w K mg base ["_law_error", "_law_found"] "_law_name_of" (defScope s_law_name_of) fa cdv A outer s H E p).pn := List.mem_cons_self
    exact (ppss_cons (pps_set 1 nd (ppe_op os_add (ppe_op os_mul ppe_str.bo (ppe_callTy cs_int T.b_int boot_int (ppba_cons (ppe_isE (cv := .ref T.c_BadLoop) (cu := .ref T.c_BadLoop) 0 EC hp hz hf T.b_isinstance boot_isi  (by exact pe_glob (v := .ref T.c_BadLoop) rfl T.x_BadLoop.gC rfl) (fun _ r => r) kBadLoop).bo ppba_nil)).bo).bo (ppe_op os_mul ppe_str.bo (ppe_callTy cs_int T.b_int boot_int (ppba_cons (ppe_isE (cv := .ref T.c_BadState) (cu := .ref T.c_BadState) 0 EC hp hz hf T.b_isinstance boot_isi  (by exact pe_glob (v := .ref T.c_BadState) rfl T.x_BadState.gC rfl) (fun _ r => r) kBadState).bo ppba_nil)).bo).bo))
    (ppss_cons (pps_set 1 nd (ppe_op os_add (ppe_op os_add (ppb_v 1) (ppe_op os_mul ppe_str.bo (ppe_callTy cs_int T.b_int boot_int (ppba_cons (ppe_isE (cv := .ref T.c_BadCount) (cu := .ref T.c_BadCount) 0 EC hp hz hf T.b_isinstance boot_isi  (by exact pe_glob (v := .ref T.c_BadCount) rfl T.x_BadCount.gC rfl) (fun _ r => r) kBadCount).bo ppba_nil)).bo).bo).bo (ppe_op os_mul ppe_str.bo (ppe_callTy cs_int T.b_int boot_int (ppba_cons (ppe_isE (cv := .ref T.c_BadGauge) (cu := .ref T.c_BadGauge) 0 EC hp hz hf T.b_isinstance boot_isi  (by exact pe_glob (v := .ref T.c_BadGauge) rfl T.x_BadGauge.gC rfl) (fun _ r => r) kBadGauge).bo ppba_nil)).bo).bo))
    (ppss_cons (pps_set 1 nd (ppe_op os_add (ppe_op os_add (ppb_v 1) (ppe_op os_mul ppe_str.bo (ppe_callTy cs_int T.b_int boot_int (ppba_cons (ppe_isE (cv := .ref T.c_BadTable) (cu := .ref T.c_BadTable) 0 EC hp hz hf T.b_isinstance boot_isi  (by exact pe_glob (v := .ref T.c_BadTable) rfl T.x_BadTable.gC rfl) (fun _ r => r) kBadTable).bo ppba_nil)).bo).bo).bo (ppe_op os_mul ppe_str.bo (ppe_callTy cs_int T.b_int boot_int (ppba_cons (ppe_isE (cv := .ref T.c_BadText) (cu := .ref T.c_BadText) 0 EC hp hz hf T.b_isinstance boot_isi  (by exact pe_glob (v := .ref T.c_BadText) rfl T.x_BadText.gC rfl) (fun _ r => r) kBadText).bo ppba_nil)).bo).bo))
    (ppss_one (pps_ret (ppe_ix (ppe_list (ppa_cons (ppe_v 1) (ppa_cons ppe_str ppa_nil))).bo (ppe_callTy cs_int T.b_int boot_int (ppba_cons (ppe_not (ppe_isE (cv := .ty "ValueError") (cu := .type "ValueError") 0 EC hp hz hf T.b_isinstance boot_isi  (by exact pe_bltn (v := .ty "ValueError") rfl T.b_ValueError boot_ValueError rfl) (fun _ r => r) kValueError)).bo ppba_nil)) (fun _ _ => rfl)))))))

abbrev s_law_copied : Stmt := topS 69
theorem sc_law_copied : FnScope ["_law_thing", "_law_part"] ["_law_thing"] (defScope s_law_copied) := ⟨rfl, rfl, rfl, by decide +kernel, rfl, by decide +kernel, by decide +kernel⟩
theorem ok_law_copied {P : Program} {w : World} {K : PySem.W.Frag} {mg : Str → Option Value} {base : Heap} {fa : Addr} {fd : FuncData} (T : Txt K mg) {k : Nat} {mc : List D → R D} (c_law_copied : Cal P w K mg base "_law_copied" ["_law_thing"] (k + 1) mc) (F : Fun K "_law_copied" "_law_copied" s_law_copied fa fd) : FnP P w K mg base (k + 1 + 1) fa fd ["_law_thing"] (fnR 2 (b_law_copied mc)) :=
  fnP_of (N := ["_law_thing", "_law_part"]) (k := k + 1) F sc_law_copied fun cdv A outer s H E hr => by
    have nd : (["_law_thing", "_law_part"] : List Str).Nodup := sc_law_copied.nd
    have tk := @takes_of (cxOf (L2.CX P w) P w K mg base ["_law_thing", "_law_part"] "_law_copied" (defScope s_law_copied) fa cdv A outer s H E) E rfl rfl rfl _ rfl
    exact (ppss_cons (pps_if (ppt_v (ppe_isi .list (ppb_v 0) T.b_isinstance boot_isi T.b_list boot_list)) (ppss_one (pps_ret (ppe_comp (own := [("_law_part", 1)]) nd (ppi_list (ppb_v 0)) (by kernel_rfl) (fun _ _ _ _ _ => (ppg_n 1 nd)) (fun _ _ _ _ _ => ppts_nil) (fun _ _ _ _ _ => (ppe_cal c_law_copied hr takes0 (ppa_cons (ppe_v 1) ppa_nil) (Nat.le_refl _)))))) ppss_nil)
    (ppss_cons (pps_if (ppt_v (ppe_isi .tuple (ppb_v 0) T.b_isinstance boot_isi T.b_tuple boot_tuple)) (ppss_one (pps_ret (ppe_callTy cs_tup T.b_tuple boot_tuple (ppba_cons (ppe_comp (own := [("_law_part", 1)]) nd (ppi_tup (ppe_v 0)) (by kernel_rfl) (fun _ _ _ _ _ => (ppg_n 1 nd)) (fun _ _ _ _ _ => ppts_nil) (fun _ _ _ _ _ => (ppe_cal c_law_copied hr takes0 (ppa_cons (ppe_v 1) ppa_nil) (Nat.le_refl _)))).bo ppba_nil)))) ppss_nil)
    (ppss_one (pps_ret (ppe_v 0)))))
theorem all_law_copied {P : Program} {w : World} {K : PySem.W.Frag} {mg : Str → Option Value} {base : Heap} {fa : Addr} {fd : FuncData} (T : Txt K mg) (F : Fun K "_law_copied" "_law_copied" s_law_copied fa fd) (hb : Binds K fd ["_law_thing"] []) (hm : mg "_law_copied" = some (.ref fa)) (n : Nat) : Cal P w K mg base "_law_copied" ["_law_thing"] (n + 1) (m_law_copied n) := by
  induction n with
  | zero => exact ⟨fa, fd, fnP_stk, hm, F.kp, hb⟩
  | succ n ih => exact ⟨fa, fd, ok_law_copied T ih F, hm, F.kp, hb⟩

abbrev s_law_asked : Stmt := topS 70
theorem sc_law_asked : FnScope ["_law_which", "_law_thing"] ["_law_which", "_law_thing"] (defScope s_law_asked) := ⟨rfl, rfl, rfl, by decide +kernel, rfl, by decide +kernel, by decide +kernel⟩
theorem ok_law_asked {P : Program} {w : World} {K : PySem.W.Frag} {mg : Str → Option Value} {base : Heap} {fa : Addr} {fd : FuncData} (T : Txt K mg) (c_written : Cal P w K mg base "written" ["loop"] 8 m_written) (c_need_loop : Cal P w K mg base "need_loop" ["thing"] 7 m_need_loop) (c_after : Cal P w K mg base "after" ["loop", "number", "state"] 8 m_after) (c_run : Cal P w K mg base "run" ["loop", "state", "most"] 8 m_run) (c_told : Cal P w K mg base "told" ["loop"] 8 m_told) (c_is_reason : Cal P w K mg base "is_reason" ["loop", "gauge", "reason"] 8 m_is_reason) (c_are_spots : Cal P w K mg base "are_spots" ["loop", "spots"] 8 m_are_spots) (c_most_turns : Cal P w K mg base "most_turns" ["loop", "gauge", "state"] 8 m_most_turns) (F : Fun K "_law_asked" "_law_asked" s_law_asked fa fd) : FnP P w K mg base 9 fa fd ["_law_which", "_law_thing"] m_law_asked :=
  fnP_of (N := ["_law_which", "_law_thing"]) (k := 8) F sc_law_asked fun cdv A outer s H E hr => by
    have nd : (["_law_which", "_law_thing"] : List Str).Nodup := sc_law_asked.nd
    have tk := @takes_of (cxOf (L2.CX P w) P w K mg base ["_law_which", "_law_thing"] "_law_asked" (defScope s_law_asked) fa cdv A outer s H E) E rfl rfl rfl _ rfl
    exact (ppss_cons (pps_if (ppt_cmp (os_eq hr.units) (ppb_v 0) ppe_int.bo (nomark _)) (ppss_one (pps_ret (ppe_cal c_need_loop hr tk (ppa_cons (ppe_v 1) ppa_nil)))) ppss_nil)
    (ppss_cons (pps_if (ppt_cmp (os_eq hr.units) (ppb_v 0) ppe_int.bo (nomark _)) (ppss_one (pps_ret (ppe_cal c_after hr tk (ppa_cons (ppe_v 1) (ppa_cons ppe_non (ppa_cons ppe_int ppa_nil)))))) ppss_nil)
    (ppss_cons (pps_if (ppt_cmp (os_eq hr.units) (ppb_v 0) ppe_int.bo (nomark _)) (ppss_one (pps_ret (ppe_cal c_run hr tk (ppa_cons (ppe_v 1) (ppa_cons ppe_non (ppa_cons (ppe_un us_neg ppe_int.bo) ppa_nil)))))) ppss_nil)
    (ppss_cons (pps_if (ppt_cmp (os_eq hr.units) (ppb_v 0) ppe_int.bo (nomark _)) (ppss_one (pps_ret (ppe_cal c_told hr tk (ppa_cons (ppe_v 1) ppa_nil)))) ppss_nil)
    (ppss_cons (pps_if (ppt_cmp (os_eq hr.units) (ppb_v 0) ppe_int.bo (nomark _)) (ppss_one (pps_ret (ppe_cal c_is_reason hr tk (ppa_cons (ppe_v 1) (ppa_cons ppe_non (ppa_cons ppe_int ppa_nil)))))) ppss_nil)
    (ppss_cons (pps_if (ppt_cmp (os_eq hr.units) (ppb_v 0) ppe_int.bo (nomark _)) (ppss_one (pps_ret (ppe_cal c_are_spots hr tk (ppa_cons (ppe_v 1) (ppa_cons ppe_non ppa_nil))))) ppss_nil)
    (ppss_cons (pps_if (ppt_cmp (os_eq hr.units) (ppb_v 0) ppe_int.bo (nomark _)) (ppss_one (pps_ret (ppe_cal c_most_turns hr tk (ppa_cons (ppe_v 1) (ppa_cons ppe_non (ppa_cons ppe_int ppa_nil)))))) ppss_nil)
    (ppss_one (pps_ret (ppe_cal c_written hr tk (ppa_cons (ppe_v 1) ppa_nil)))))))))))

abbrev s_law_word : Stmt := topS 71
theorem sc_law_word : FnScope ["_law_which", "_law_thing", "_law_error"] ["_law_which", "_law_thing"] (defScope s_law_word) := ⟨rfl, rfl, rfl, by decide +kernel, rfl, by decide +kernel, by decide +kernel⟩
theorem ok_law_word {P : Program} {w : World} {K : PySem.W.Frag} {mg : Str → Option Value} {base : Heap} {fa : Addr} {fd : FuncData} (T : Txt K mg) (c_law_asked : Cal P w K mg base "_law_asked" ["_law_which", "_law_thing"] 9 m_law_asked) (c_law_name_of : CalX P w K mg base "_law_name_of" 1 T.c_LoopError nmOf) (F : Fun K "_law_word" "_law_word" s_law_word fa fd) : FnP P w K mg base 10 fa fd ["_law_which", "_law_thing"] m_law_word :=
  fnP_of (N := ["_law_which", "_law_thing", "_law_error"]) (k := 9) F sc_law_word fun cdv A outer s H E hr => by
    have nd : (["_law_which", "_law_thing", "_law_error"] : List Str).Nodup := sc_law_word.nd
    have tk := @takes_of (cxOf (L2.CX P w) P w K mg base ["_law_which", "_law_thing", "_law_error"] "_law_word" (defScope s_law_word) fa cdv A outer s H E) E rfl rfl rfl _ rfl
    exact (ppss_cons (pps_try 2 c_law_name_of hr T.x_LoopError.gC (fun W pn xe tk hpo => (ppss_one (pps_do (ppe_cal c_law_asked hr tk (ppa_cons (ppe_v 0) (ppa_cons (ppe_v 1) ppa_nil)))))) nd)
    (ppss_one (pps_ret ppe_str)))

abbrev s_law_put : Stmt := topS 72
theorem sc_law_put : FnScope ["_law_row", "_law_at", "_law_thing"] ["_law_row", "_law_at", "_law_thing"] (defScope s_law_put) := ⟨rfl, rfl, rfl, by decide +kernel, rfl, by decide +kernel, by decide +kernel⟩
theorem ok_law_put {P : Program} {w : World} {K : PySem.W.Frag} {mg : Str → Option Value} {base : Heap} {fa : Addr} {fd : FuncData} (T : Txt K mg) (F : Fun K "_law_put" "_law_put" s_law_put fa fd) : FnP P w K mg base 1 fa fd ["_law_row", "_law_at", "_law_thing"] m_law_put :=
  fnP_of (N := ["_law_row", "_law_at", "_law_thing"]) (k := 0) F sc_law_put fun cdv A outer s H E hr => by
    have nd : (["_law_row", "_law_at", "_law_thing"] : List Str).Nodup := sc_law_put.nd
    have tk := @takes_of (cxOf (L2.CX P w) P w K mg base ["_law_row", "_law_at", "_law_thing"] "_law_put" (defScope s_law_put) fa cdv A outer s H E) E rfl rfl rfl _ rfl
    exact (ppss_cons (pps_if (ppt_cmp (os_eq hr.units) (ppb_v 0) (ppe_list ppa_nil).bo (nomark _)) (ppss_one (pps_ret (ppe_list (ppa_cons (ppe_v 2) ppa_nil)))) ppss_nil)
    (ppss_one (pps_ret (ppe_op os_add (ppe_op os_add (ppe_sl (ppb_v 0) ppo_none (ppo_some (ppe_op os_mod (ppb_v 1) (ppe_callB cs_len T.b_len PySem.boot_len (ppba_cons (ppb_v 0) ppba_nil)).bo))).bo (ppe_list (ppa_cons (ppe_v 2) ppa_nil)).bo).bo (ppe_sl (ppb_v 0) (ppo_some (ppe_op os_add (ppe_op os_mod (ppb_v 1) (ppe_callB cs_len T.b_len PySem.boot_len (ppba_cons (ppb_v 0) ppba_nil)).bo).bo ppe_int.bo)) ppo_none).bo))))

abbrev s_law_row_bent : Stmt := topS 73
theorem sc_law_row_bent : FnScope ["_law_rows", "_law_cell", "_law_at", "_law_row", "_law_odd", "_law_some", "_law_thing"] ["_law_rows", "_law_cell", "_law_at"] (defScope s_law_row_bent) := ⟨rfl, rfl, rfl, by decide +kernel, rfl, by decide +kernel, by decide +kernel⟩
theorem ok_law_row_bent {P : Program} {w : World} {K : PySem.W.Frag} {mg : Str → Option Value} {base : Heap} {fa : Addr} {fd : FuncData} (T : Txt K mg) (c_law_put : Cal P w K mg base "_law_put" ["_law_row", "_law_at", "_law_thing"] 1 m_law_put) (F : Fun K "_law_row_bent" "_law_row_bent" s_law_row_bent fa fd) : FnP P w K mg base 2 fa fd ["_law_rows", "_law_cell", "_law_at"] m_law_row_bent :=
  fnP_of (N := ["_law_rows", "_law_cell", "_law_at", "_law_row", "_law_odd", "_law_some", "_law_thing"]) (k := 1) F sc_law_row_bent fun cdv A outer s H E hr => by
    have nd : (["_law_rows", "_law_cell", "_law_at", "_law_row", "_law_odd", "_law_some", "_law_thing"] : List Str).Nodup := sc_law_row_bent.nd
    have tk := @takes_of (cxOf (L2.CX P w) P w K mg base ["_law_rows", "_law_cell", "_law_at", "_law_row", "_law_odd", "_law_some", "_law_thing"] "_law_row_bent" (defScope s_law_row_bent) fa cdv A outer s H E) E rfl rfl rfl _ rfl
    exact (ppss_cons (pps_set 3 nd (ppe_if (ppt_cmp (os_ne hr.units) (ppb_v 0) (ppe_list ppa_nil).bo (nomark _)) (ppe_ix (ppb_v 0) (ppe_op os_mod (ppb_v 2) (ppe_callB cs_len T.b_len PySem.boot_len (ppba_cons (ppb_v 0) ppba_nil)).bo) (fun _ _ => rfl)) (ppe_list (ppa_cons ppe_int ppa_nil))))
    (ppss_cons (pps_set 4 nd (ppe_ix (ppe_list (ppa_cons ppe_int (ppa_cons (ppe_un us_neg ppe_int.bo) (ppa_cons ppe_bl (ppa_cons ppe_non (ppa_cons ppe_str (ppa_cons (ppe_list (ppa_cons ppe_int ppa_nil)) (ppa_cons ppe_bl (ppa_cons (ppe_op os_pow ppe_int.bo ppe_int.bo) (ppa_cons ppe_int (ppa_cons (ppe_un us_neg ppe_int.bo) ppa_nil))))))))))).bo (ppe_op os_mod (ppe_op os_div (ppb_v 1) ppe_int.bo).bo ppe_int.bo) (fun _ _ => rfl)))
    (ppss_cons (pps_set 5 nd (ppe_ix (ppe_list (ppa_cons (ppe_sl (ppb_v 3) (ppo_some ppe_int) ppo_none) (ppa_cons (ppe_op os_add (ppb_v 3) (ppe_list (ppa_cons ppe_int ppa_nil)).bo) (ppa_cons (ppe_callTy cs_tup T.b_tuple boot_tuple (ppba_cons (ppb_v 3) ppba_nil)) (ppa_cons ppe_non (ppa_cons ppe_int (ppa_cons (ppe_list ppa_nil) (ppa_cons ppe_str (ppa_cons ppe_dic (ppa_cons (ppe_list (ppa_cons (ppe_v 3) ppa_nil)) ppa_nil)))))))))).bo (ppe_op os_mod (ppe_op os_div (ppb_v 1) ppe_int.bo).bo ppe_int.bo) (fun _ _ => rfl)))
    (ppss_cons (pps_set 6 nd (ppe_ix (ppe_list (ppa_cons (ppe_cal c_law_put hr tk (ppa_cons (ppe_v 3) (ppa_cons (ppe_op os_div (ppb_v 2) ppe_int.bo) (ppa_cons (ppe_v 4) ppa_nil)))) (ppa_cons (ppe_v 5) ppa_nil))).bo (ppe_op os_mod (ppe_op os_div (ppb_v 1) ppe_int.bo).bo ppe_int.bo) (fun _ _ => rfl)))
    (ppss_one (pps_ret (ppe_cal c_law_put hr tk (ppa_cons (ppe_v 0) (ppa_cons (ppe_v 2) (ppa_cons (ppe_v 6) ppa_nil))))))))))

abbrev s_law_bent : Stmt := topS 74
theorem sc_law_bent : FnScope ["_law_loop", "_law_cell", "_law_at", "_law_many", "_law_ways", "_law_k", "_law_asks", "_law_gives", "_law_way", "_law_five", "_law_whole"] ["_law_loop", "_law_cell", "_law_at"] (defScope s_law_bent) := ⟨rfl, rfl, rfl, by decide +kernel, rfl, by decide +kernel, by decide +kernel⟩
theorem ok_law_bent {P : Program} {w : World} {K : PySem.W.Frag} {mg : Str → Option Value} {base : Heap} {fa : Addr} {fd : FuncData} (T : Txt K mg) (c_law_row_bent : Cal P w K mg base "_law_row_bent" ["_law_rows", "_law_cell", "_law_at"] 2 m_law_row_bent) (F : Fun K "_law_bent" "_law_bent" s_law_bent fa fd) : FnP P w K mg base 3 fa fd ["_law_loop", "_law_cell", "_law_at"] m_law_bent :=
  fnP_of (N := ["_law_loop", "_law_cell", "_law_at", "_law_many", "_law_ways", "_law_k", "_law_asks", "_law_gives", "_law_way", "_law_five", "_law_whole"]) (k := 2) F sc_law_bent fun cdv A outer s H E hr => by
    have nd : (["_law_loop", "_law_cell", "_law_at", "_law_many", "_law_ways", "_law_k", "_law_asks", "_law_gives", "_law_way", "_law_five", "_law_whole"] : List Str).Nodup := sc_law_bent.nd
    have tk := @takes_of (cxOf (L2.CX P w) P w K mg base ["_law_loop", "_law_cell", "_law_at", "_law_many", "_law_ways", "_law_k", "_law_asks", "_law_gives", "_law_way", "_law_five", "_law_whole"] "_law_bent" (defScope s_law_bent) fa cdv A outer s H E) E rfl rfl rfl _ rfl
    exact (ppss_cons (pps_setT (ppg_t rfl (ppgs_cons (ppg_n 3 nd) (ppgs_cons (ppg_n 4 nd) ppgs_nil))) (ppe_v 0))
    (ppss_cons (pps_set 5 nd (ppe_op os_mod (ppb_v 2) (ppe_callB cs_len T.b_len PySem.boot_len (ppba_cons (ppb_v 4) ppba_nil)).bo))
    (ppss_cons (pps_setT (ppg_t rfl (ppgs_cons (ppg_n 6 nd) (ppgs_cons (ppg_n 7 nd) ppgs_nil))) (ppe_ix (ppb_v 4) (ppe_v 5) (fun _ _ => rfl)))
    (ppss_cons (pps_if (ppt_cmp os_lt (ppe_op os_mod (ppb_v 1) ppe_int.bo).bo ppe_int.bo (nomark _)) (ppss_one (pps_set 8 nd (ppe_tup (ppa_cons (ppe_cal c_law_row_bent hr tk (ppa_cons (ppe_v 6) (ppa_cons (ppe_v 1) (ppa_cons (ppe_op os_div (ppb_v 2) ppe_int.bo) ppa_nil)))) (ppa_cons (ppe_v 7) ppa_nil))))) (ppss_one (pps_if (ppt_cmp os_lt (ppe_op os_mod (ppb_v 1) ppe_int.bo).bo ppe_int.bo (nomark _)) (ppss_one (pps_set 8 nd (ppe_tup (ppa_cons (ppe_v 6) (ppa_cons (ppe_cal c_law_row_bent hr tk (ppa_cons (ppe_v 7) (ppa_cons (ppe_v 1) (ppa_cons (ppe_op os_div (ppb_v 2) ppe_int.bo) ppa_nil)))) ppa_nil))))) (ppss_one (pps_if (ppt_cmp (os_eq hr.units) (ppe_op os_mod (ppb_v 1) ppe_int.bo).bo ppe_int.bo (nomark _)) (ppss_cons (pps_set 9 nd (ppe_op os_add (ppb_v 6) (ppe_op os_mul (ppe_list (ppa_cons (ppe_op os_mul (ppe_list (ppa_cons ppe_int ppa_nil)).bo (ppe_op os_add (ppb_v 3) ppe_int.bo).bo) ppa_nil)).bo (ppe_op os_sub ppe_int.bo (ppe_callB cs_len T.b_len PySem.boot_len (ppba_cons (ppb_v 6) ppba_nil)).bo).bo).bo))
    (ppss_one (pps_set 8 nd (ppe_tup (ppa_cons (ppe_ix (ppe_list (ppa_cons ppe_non (ppa_cons (ppe_callTy cs_tup T.b_tuple boot_tuple (ppba_cons (ppb_v 6) ppba_nil)) (ppa_cons (ppe_v 9) (ppa_cons ppe_int (ppa_cons (ppe_v 9) (ppa_cons ppe_str (ppa_cons (ppe_sl (ppb_v 6) ppo_none (ppo_some ppe_int)) (ppa_cons (ppe_v 9) ppa_nil))))))))).bo (ppe_op os_mod (ppe_op os_div (ppb_v 1) ppe_int.bo).bo ppe_int.bo) (fun _ _ => rfl)) (ppa_cons (ppe_v 7) ppa_nil)))))) (ppss_one (pps_if (ppt_cmp (os_eq hr.units) (ppe_op os_mod (ppb_v 1) ppe_int.bo).bo ppe_int.bo (nomark _)) (ppss_one (pps_set 8 nd (ppe_tup (ppa_cons (ppe_v 6) (ppa_cons (ppe_ix (ppe_list (ppa_cons ppe_non (ppa_cons (ppe_callTy cs_tup T.b_tuple boot_tuple (ppba_cons (ppb_v 7) ppba_nil)) (ppa_cons (ppe_sl (ppb_v 7) (ppo_some ppe_int) ppo_none) (ppa_cons (ppe_op os_add (ppb_v 7) (ppe_list (ppa_cons (ppe_ix (ppb_v 7) ppe_int (fun _ _ => rfl)) ppa_nil)).bo) (ppa_cons ppe_int (ppa_cons (ppe_list ppa_nil) (ppa_cons ppe_dic ppa_nil)))))))).bo (ppe_op os_mod (ppe_op os_div (ppb_v 1) ppe_int.bo).bo ppe_int.bo) (fun _ _ => rfl)) ppa_nil))))) (ppss_one (pps_if (ppt_cmp (os_eq hr.units) (ppe_op os_mod (ppb_v 1) ppe_int.bo).bo ppe_int.bo (nomark _)) (ppss_one (pps_set 8 nd (ppe_ix (ppe_list (ppa_cons (ppe_list (ppa_cons (ppe_v 6) (ppa_cons (ppe_v 7) ppa_nil))) (ppa_cons (ppe_tup (ppa_cons (ppe_v 6) ppa_nil)) (ppa_cons (ppe_tup (ppa_cons (ppe_v 6) (ppa_cons (ppe_v 7) (ppa_cons (ppe_list ppa_nil) ppa_nil)))) (ppa_cons ppe_non (ppa_cons ppe_str (ppa_cons ppe_int (ppa_cons (ppe_tup (ppa_cons (ppe_v 7) (ppa_cons (ppe_v 6) ppa_nil))) (ppa_cons (ppe_tup ppa_nil) ppa_nil))))))))).bo (ppe_op os_mod (ppe_op os_div (ppb_v 1) ppe_int.bo).bo ppe_int.bo) (fun _ _ => rfl)))) (ppss_cons (pps_set 10 nd (ppe_list (ppa_cons (ppe_list (ppa_cons (ppe_v 3) (ppa_cons (ppe_v 4) ppa_nil))) (ppa_cons (ppe_tup (ppa_cons (ppe_v 3) ppa_nil)) (ppa_cons (ppe_tup (ppa_cons (ppe_v 3) (ppa_cons (ppe_v 4) (ppa_cons ppe_int ppa_nil)))) (ppa_cons ppe_non (ppa_cons (ppe_tup (ppa_cons ppe_int (ppa_cons (ppe_v 4) ppa_nil))) (ppa_cons (ppe_tup (ppa_cons ppe_int (ppa_cons (ppe_v 4) ppa_nil))) (ppa_cons (ppe_tup (ppa_cons ppe_bl (ppa_cons (ppe_v 4) ppa_nil))) (ppa_cons (ppe_tup (ppa_cons (ppe_op os_add (ppb_v 3) ppe_int.bo) (ppa_cons (ppe_v 4) ppa_nil))) ppa_nil))))))))))
    (ppss_cons (pps_set 10 nd (ppe_op os_add (ppb_v 10) (ppe_list (ppa_cons (ppe_tup (ppa_cons (ppe_v 3) (ppa_cons (ppe_list ppa_nil) ppa_nil))) (ppa_cons (ppe_tup (ppa_cons (ppe_v 3) (ppa_cons (ppe_op os_mul (ppb_v 4) ppe_int.bo) ppa_nil))) (ppa_cons (ppe_tup (ppa_cons (ppe_v 3) (ppa_cons (ppe_callTy cs_tup T.b_tuple boot_tuple (ppba_cons (ppb_v 4) ppba_nil)) ppa_nil))) (ppa_cons (ppe_tup (ppa_cons (ppe_callTy cs_str T.b_str boot_str (ppba_cons (ppb_v 3) ppba_nil)) (ppa_cons (ppe_v 4) ppa_nil))) (ppa_cons (ppe_tup (ppa_cons (ppe_v 3) (ppa_cons ppe_non ppa_nil))) (ppa_cons ppe_str (ppa_cons ppe_int ppa_nil)))))))).bo))
    (ppss_one (pps_ret (ppe_ix (ppb_v 10) (ppe_op os_mod (ppe_op os_div (ppb_v 1) ppe_int.bo).bo ppe_int.bo) (fun _ _ => rfl)))))))))))))))
    (ppss_one (pps_ret (ppe_tup (ppa_cons (ppe_v 3) (ppa_cons (ppe_op os_add (ppe_op os_add (ppe_sl (ppb_v 4) ppo_none (ppo_some (ppe_v 5))).bo (ppe_list (ppa_cons (ppe_v 8) ppa_nil)).bo).bo (ppe_sl (ppb_v 4) (ppo_some (ppe_op os_add (ppb_v 5) ppe_int.bo)) ppo_none).bo) ppa_nil)))))))))

abbrev s_law_is_row : Stmt := topS 75
theorem sc_law_is_row : FnScope ["_law_thing", "_law_many", "_law_one"] ["_law_thing", "_law_many"] (defScope s_law_is_row) := ⟨rfl, rfl, rfl, by decide +kernel, rfl, by decide +kernel, by decide +kernel⟩
theorem ok_law_is_row {P : Program} {w : World} {K : PySem.W.Frag} {mg : Str → Option Value} {base : Heap} {fa : Addr} {fd : FuncData} (T : Txt K mg) (F : Fun K "_law_is_row" "_law_is_row" s_law_is_row fa fd) : FnP P w K mg base 1 fa fd ["_law_thing", "_law_many"] m_law_is_row :=
  fnP_of (N := ["_law_thing", "_law_many", "_law_one"]) (k := 0) F sc_law_is_row fun cdv A outer s H E hr => by
    have nd : (["_law_thing", "_law_many", "_law_one"] : List Str).Nodup := sc_law_is_row.nd
    have tk := @takes_of (cxOf (L2.CX P w) P w K mg base ["_law_thing", "_law_many", "_law_one"] "_law_is_row" (defScope s_law_is_row) fa cdv A outer s H E) E rfl rfl rfl _ rfl
    have hpo : PassesOwn (model P w) (cxOf (L2.CX P w) P w K mg base ["_law_thing", "_law_many", "_law_one"] "_law_is_row" (defScope s_law_is_row) fa cdv A outer s H E).A (cxOf (L2.CX P w) P w K mg base ["_law_thing", "_law_many", "_law_one"] "_law_is_row" (defScope s_law_is_row) fa cdv A outer s H E).env (cxOf (L2.CX P w) P w K mg base ["_law_thing", "_law_many", "_law_one"] "_law_is_row" (defScope s_law_is_row) fa cdv A outer s H E).xe := passes_of rfl
    exact (ppss_cons (pps_if (ppw_or (ppt_not (ppt_v (ppe_isi .list (ppb_v 0) T.b_isinstance boot_isi T.b_list boot_list))) (ppw_or1 (ppt_cmp (os_ne hr.units) (ppe_callB cs_len T.b_len PySem.boot_len (ppba_cons (ppb_v 0) ppba_nil)).bo (ppe_op os_add (ppb_v 1) ppe_int.bo).bo (nomark _)))).pt (ppss_one (pps_ret ppe_bl)) ppss_nil)
    (ppss_cons (pps_for hpo (ppi_listS (ppe_v 0)) (ppg_n 2 nd) (ppss_one (pps_if (ppw_or (ppt_not (ppt_v (ppe_isi .int (ppb_v 2) T.b_isinstance boot_isi T.b_int boot_int))) (ppw_or (ppt_v (ppe_isi .bool (ppb_v 2) T.b_isinstance boot_isi T.b_bool boot_bool)) (ppw_or1 (ppt_not (ppt_chain os_le os_le (ppe_un us_neg ppe_int.bo).bo (ppb_v 2) ppe_int.bo))))).pt (ppss_one (pps_ret ppe_bl)) ppss_nil)))
    (ppss_one (pps_ret ppe_bl))))

abbrev s_law_is_loop : Stmt := topS 76
theorem sc_law_is_loop : FnScope ["_law_thing", "_law_many", "_law_ways", "_law_way", "_law_row"] ["_law_thing"] (defScope s_law_is_loop) := ⟨rfl, rfl, rfl, by decide +kernel, rfl, by decide +kernel, by decide +kernel⟩
theorem ok_law_is_loop {P : Program} {w : World} {K : PySem.W.Frag} {mg : Str → Option Value} {base : Heap} {fa : Addr} {fd : FuncData} (T : Txt K mg) (c_law_is_row : Cal P w K mg base "_law_is_row" ["_law_thing", "_law_many"] 1 m_law_is_row) (F : Fun K "_law_is_loop" "_law_is_loop" s_law_is_loop fa fd) : FnP P w K mg base 2 fa fd ["_law_thing"] m_law_is_loop :=
  fnP_of (N := ["_law_thing", "_law_many", "_law_ways", "_law_way", "_law_row"]) (k := 1) F sc_law_is_loop fun cdv A outer s H E hr => by
    have nd : (["_law_thing", "_law_many", "_law_ways", "_law_way", "_law_row"] : List Str).Nodup := sc_law_is_loop.nd
    have tk := @takes_of (cxOf (L2.CX P w) P w K mg base ["_law_thing", "_law_many", "_law_ways", "_law_way", "_law_row"] "_law_is_loop" (defScope s_law_is_loop) fa cdv A outer s H E) E rfl rfl rfl _ rfl
    have hpo : PassesOwn (model P w) (cxOf (L2.CX P w) P w K mg base ["_law_thing", "_law_many", "_law_ways", "_law_way", "_law_row"] "_law_is_loop" (defScope s_law_is_loop) fa cdv A outer s H E).A (cxOf (L2.CX P w) P w K mg base ["_law_thing", "_law_many", "_law_ways", "_law_way", "_law_row"] "_law_is_loop" (defScope s_law_is_loop) fa cdv A outer s H E).env (cxOf (L2.CX P w) P w K mg base ["_law_thing", "_law_many", "_law_ways", "_law_way", "_law_row"] "_law_is_loop" (defScope s_law_is_loop) fa cdv A outer s H E).xe := passes_of rfl
    exact (ppss_cons (pps_if (ppw_or (ppt_not (ppt_v (ppe_isi .tuple (ppb_v 0) T.b_isinstance boot_isi T.b_tuple boot_tuple))) (ppw_or (ppt_cmp (os_ne hr.units) (ppe_callB cs_len T.b_len PySem.boot_len (ppba_cons (ppb_v 0) ppba_nil)).bo ppe_int.bo (nomark _)) (ppw_or1 (ppt_not (ppt_v (ppe_isi .list (ppe_ix (ppb_v 0) ppe_int (fun _ _ => rfl)).bo T.b_isinstance boot_isi T.b_list boot_list)))))).pt (ppss_one (pps_ret ppe_bl)) ppss_nil)
    (ppss_cons (pps_setT (ppg_t rfl (ppgs_cons (ppg_n 1 nd) (ppgs_cons (ppg_n 2 nd) ppgs_nil))) (ppe_v 0))
    (ppss_cons (pps_if (ppw_or (ppt_not (ppt_v (ppe_isi .int (ppb_v 1) T.b_isinstance boot_isi T.b_int boot_int))) (ppw_or (ppt_v (ppe_isi .bool (ppb_v 1) T.b_isinstance boot_isi T.b_bool boot_bool)) (ppw_or (ppt_not (ppt_chain os_le os_le ppe_int.bo (ppb_v 1) ppe_int.bo)) (ppw_or1 (ppt_not (ppt_chain os_le os_le ppe_int.bo (ppe_callB cs_len T.b_len PySem.boot_len (ppba_cons (ppb_v 2) ppba_nil)).bo ppe_int.bo)))))).pt (ppss_one (pps_ret ppe_bl)) ppss_nil)
    (ppss_cons (pps_for hpo (ppi_listS (ppe_v 2)) (ppg_n 3 nd) (ppss_cons (pps_if (ppw_or (ppt_not (ppt_v (ppe_isi .tuple (ppb_v 3) T.b_isinstance boot_isi T.b_tuple boot_tuple))) (ppw_or (ppt_cmp (os_ne hr.units) (ppe_callB cs_len T.b_len PySem.boot_len (ppba_cons (ppb_v 3) ppba_nil)).bo ppe_int.bo (nomark _)) (ppw_or (ppt_not (ppt_v (ppe_isi .list (ppe_ix (ppb_v 3) ppe_int (fun _ _ => rfl)).bo T.b_isinstance boot_isi T.b_list boot_list))) (ppw_or1 (ppt_not (ppt_v (ppe_isi .list (ppe_ix (ppb_v 3) ppe_int (fun _ _ => rfl)).bo T.b_isinstance boot_isi T.b_list boot_list))))))).pt (ppss_one (pps_ret ppe_bl)) ppss_nil)
    (ppss_one (pps_if (ppw_or (ppt_cmp os_gt (ppe_callB cs_len T.b_len PySem.boot_len (ppba_cons (ppe_ix (ppb_v 3) ppe_int (fun _ _ => rfl)).bo ppba_nil)).bo ppe_int.bo (nomark _)) (ppw_or (ppt_cmp (os_ne hr.units) (ppe_callB cs_len T.b_len PySem.boot_len (ppba_cons (ppe_ix (ppb_v 3) ppe_int (fun _ _ => rfl)).bo ppba_nil)).bo (ppb_v 1) (nomark _)) (ppw_or1 (ppt_not (ppt_v (ppe_callB (cs_all rfl) T.b_all boot_all (ppba_cons (ppe_comp (own := [("_law_row", 4)]) nd (ppi_list (ppe_op os_add (ppe_ix (ppb_v 3) ppe_int (fun _ _ => rfl)).bo (ppe_ix (ppb_v 3) ppe_int (fun _ _ => rfl)).bo).bo) (by kernel_rfl) (fun _ _ _ _ _ => (ppg_n 4 nd)) (fun _ _ _ _ _ => ppts_nil) (fun _ _ _ _ _ => (ppe_cal c_law_is_row hr takes0 (ppa_cons (ppe_v 4) (ppa_cons (ppe_v 1) ppa_nil))))).bo ppba_nil))))))).pt (ppss_one (pps_ret ppe_bl)) ppss_nil))))
    (ppss_one (pps_ret ppe_bl))))))

abbrev s_law : Stmt := topS 77
theorem sc_law : FnScope ["_law_script", "_law_loop", "_law_cell", "_law_thing", "_law_kept", "_law_good"] ["_law_script"] (defScope s_law) := ⟨rfl, rfl, rfl, by decide +kernel, rfl, by decide +kernel, by decide +kernel⟩
theorem ok_law {P : Program} {w : World} {K : PySem.W.Frag} {mg : Str → Option Value} {base : Heap} {fa : Addr} {fd : FuncData} (T : Txt K mg) (c_law_loop_by : Cal P w K mg base "_law_loop_by" ["_law_script", "_law_at"] 4 m_law_loop_by) (c_law_cell_at : Cal P w K mg base "_law_cell_at" ["_law_script", "_law_k"] 1 m_law_cell_at) (c_law_copied : Cal P w K mg base "_law_copied" ["_law_thing"] 13 (m_law_copied 12)) (c_law_is_loop : Cal P w K mg base "_law_is_loop" ["_law_thing"] 2 m_law_is_loop) (c_law_bent : Cal P w K mg base "_law_bent" ["_law_loop", "_law_cell", "_law_at"] 3 m_law_bent) (c_law_word : Cal P w K mg base "_law_word" ["_law_which", "_law_thing"] 10 m_law_word) (c_need_loop : Cal P w K mg base "need_loop" ["thing"] 7 m_need_loop) (F : Fun K "law" "law" s_law fa fd) : FnP P w K mg base 14 fa fd ["_law_script"] m_law :=
  fnP_of (N := ["_law_script", "_law_loop", "_law_cell", "_law_thing", "_law_kept", "_law_good"]) (k := 13) F sc_law fun cdv A outer s H E hr => by
    have nd : (["_law_script", "_law_loop", "_law_cell", "_law_thing", "_law_kept", "_law_good"] : List Str).Nodup := sc_law.nd
    have tk := @takes_of (cxOf (L2.CX P w) P w K mg base ["_law_script", "_law_loop", "_law_cell", "_law_thing", "_law_kept", "_law_good"] "law" (defScope s_law) fa cdv A outer s H E) E rfl rfl rfl _ rfl
    exact (ppss_cons (pps_set 1 nd (ppe_cal c_law_loop_by hr tk (ppa_cons (ppe_v 0) (ppa_cons ppe_int ppa_nil))))
    (ppss_cons (pps_set 2 nd (ppe_cal c_law_cell_at hr tk (ppa_cons (ppe_v 0) (ppa_cons ppe_int ppa_nil))))
    (ppss_cons (pps_set 3 nd (ppe_v 1))
    (ppss_cons (pps_if (ppt_cmp os_gt (ppe_op os_mod (ppb_v 2) ppe_int.bo).bo ppe_int.bo (nomark _)) (ppss_one (pps_set 3 nd (ppe_cal c_law_bent hr tk (ppa_cons (ppe_v 1) (ppa_cons (ppe_op os_div (ppb_v 2) ppe_int.bo) (ppa_cons (ppe_cal c_law_cell_at hr tk (ppa_cons (ppe_v 0) (ppa_cons ppe_int ppa_nil))) ppa_nil)))))) ppss_nil)
    (ppss_cons (pps_set 4 nd (ppe_cal c_law_copied hr tk (ppa_cons (ppe_v 3) ppa_nil)))
    (ppss_cons (pps_set 5 nd (ppe_cal c_law_is_loop hr tk (ppa_cons (ppe_v 3) ppa_nil)))
    (ppss_cons (pps_if (ppw_or (ppt_cmp (os_ne hr.units) (ppe_cal c_law_word hr tk (ppa_cons ppe_int (ppa_cons (ppe_v 3) ppa_nil))).bo (ppe_ix (ppe_list (ppa_cons ppe_str (ppa_cons ppe_str ppa_nil))).bo (ppe_callTy cs_int T.b_int boot_int (ppba_cons (ppb_v 5) ppba_nil)) (fun _ _ => rfl)).bo (nomark _)) (ppw_or1 (ppt_cmp (os_ne hr.units) (ppb_v 3) (ppb_v 4) (nomark _)))).pt (ppss_one (pps_ret ppe_bl)) ppss_nil)
    (ppss_cons (pps_if (ppt_v (ppe_v 5)) (ppss_one (pps_ret (ppe_and (ppe_cmp os_is (ppe_cal c_need_loop hr tk (ppa_cons (ppe_v 3) ppa_nil)).bo ppe_non.bo (nomark _)) (ppe_and (ppe_cmp (os_eq hr.units) (ppe_cal c_law_word hr tk (ppa_cons ppe_int (ppa_cons (ppe_v 3) ppa_nil))).bo ppe_str.bo (nomark _)) (ppe_one (ppe_cmp (os_eq hr.units) (ppb_v 3) (ppb_v 4) (nomark _))))))) ppss_nil)
    (ppss_one (pps_ret (ppe_and (ppe_cmp (os_eq hr.units) (ppe_cal c_law_word hr tk (ppa_cons (ppe_op os_add ppe_int.bo (ppe_op os_mod (ppe_cal c_law_cell_at hr tk (ppa_cons (ppe_v 0) (ppa_cons ppe_int ppa_nil))).bo ppe_int.bo).bo) (ppa_cons (ppe_v 3) ppa_nil))).bo ppe_str.bo (nomark _)) (ppe_one (ppe_cmp (os_eq hr.units) (ppb_v 3) (ppb_v 4) (nomark _))))))))))))))
section
variable {P : Program} {w : World} {K : PySem.W.Frag} {h : Heap} {mg : Str → Option Value} {fa : Addr}
theorem all_mk (X : K.In h) (G : h.Ns mainGlobals mg) (hfa : mg "law" = some (.ref fa))
    {f0 : Addr} {od0 an0 : Option Addr} {sl0 : Array (Option Value)} {oc0 kV0 dc0 pm0 cd0 ct0 : Value}
    (a0 : PySem.W.nsIn K mainGlobals "is_whole" = some (some (.ref f0)))
    (l0 : K.lookup f0 = some ⟨oc0, od0, .func (PySem.W.fnOf "is_whole" "is_whole" (defArgs s_is_whole) (defBody s_is_whole) (defScope s_is_whole) .none kV0 dc0 pm0 an0 cd0 ct0), sl0⟩)
    (c0 : PySem.W.codeIn K cd0 "is_whole" = true)
    (k0 : PySem.W.keepIn K (.ref f0) = true)
    {f1 : Addr} {od1 an1 : Option Addr} {sl1 : Array (Option Value)} {oc1 kV1 dc1 pm1 cd1 ct1 : Value}
    (a1 : PySem.W.nsIn K mainGlobals "are_whole" = some (some (.ref f1)))
    (l1 : K.lookup f1 = some ⟨oc1, od1, .func (PySem.W.fnOf "are_whole" "are_whole" (defArgs s_are_whole) (defBody s_are_whole) (defScope s_are_whole) .none kV1 dc1 pm1 an1 cd1 ct1), sl1⟩)
    (c1 : PySem.W.codeIn K cd1 "are_whole" = true)
    (k1 : PySem.W.keepIn K (.ref f1) = true)
    {f2 : Addr} {od2 an2 : Option Addr} {sl2 : Array (Option Value)} {oc2 kV2 dc2 pm2 cd2 ct2 : Value}
    (a2 : PySem.W.nsIn K mainGlobals "is_row" = some (some (.ref f2)))
    (l2 : K.lookup f2 = some ⟨oc2, od2, .func (PySem.W.fnOf "is_row" "is_row" (defArgs s_is_row) (defBody s_is_row) (defScope s_is_row) .none kV2 dc2 pm2 an2 cd2 ct2), sl2⟩)
    (c2 : PySem.W.codeIn K cd2 "is_row" = true)
    (k2 : PySem.W.keepIn K (.ref f2) = true)
    {f3 : Addr} {od3 an3 : Option Addr} {sl3 : Array (Option Value)} {oc3 kV3 dc3 pm3 cd3 ct3 : Value}
    (a3 : PySem.W.nsIn K mainGlobals "are_rows" = some (some (.ref f3)))
    (l3 : K.lookup f3 = some ⟨oc3, od3, .func (PySem.W.fnOf "are_rows" "are_rows" (defArgs s_are_rows) (defBody s_are_rows) (defScope s_are_rows) .none kV3 dc3 pm3 an3 cd3 ct3), sl3⟩)
    (c3 : PySem.W.codeIn K cd3 "are_rows" = true)
    (k3 : PySem.W.keepIn K (.ref f3) = true)
    {f4 : Addr} {od4 an4 : Option Addr} {sl4 : Array (Option Value)} {oc4 kV4 dc4 pm4 cd4 ct4 : Value}
    (a4 : PySem.W.nsIn K mainGlobals "is_way" = some (some (.ref f4)))
    (l4 : K.lookup f4 = some ⟨oc4, od4, .func (PySem.W.fnOf "is_way" "is_way" (defArgs s_is_way) (defBody s_is_way) (defScope s_is_way) .none kV4 dc4 pm4 an4 cd4 ct4), sl4⟩)
    (c4 : PySem.W.codeIn K cd4 "is_way" = true)
    (k4 : PySem.W.keepIn K (.ref f4) = true)
    {f5 : Addr} {od5 an5 : Option Addr} {sl5 : Array (Option Value)} {oc5 kV5 dc5 pm5 cd5 ct5 : Value}
    (a5 : PySem.W.nsIn K mainGlobals "is_loop" = some (some (.ref f5)))
    (l5 : K.lookup f5 = some ⟨oc5, od5, .func (PySem.W.fnOf "is_loop" "is_loop" (defArgs s_is_loop) (defBody s_is_loop) (defScope s_is_loop) .none kV5 dc5 pm5 an5 cd5 ct5), sl5⟩)
    (c5 : PySem.W.codeIn K cd5 "is_loop" = true)
    (k5 : PySem.W.keepIn K (.ref f5) = true)
    {f6 : Addr} {od6 an6 : Option Addr} {sl6 : Array (Option Value)} {oc6 kV6 dc6 pm6 cd6 ct6 : Value}
    (a6 : PySem.W.nsIn K mainGlobals "need_loop" = some (some (.ref f6)))
    (l6 : K.lookup f6 = some ⟨oc6, od6, .func (PySem.W.fnOf "need_loop" "need_loop" (defArgs s_need_loop) (defBody s_need_loop) (defScope s_need_loop) .none kV6 dc6 pm6 an6 cd6 ct6), sl6⟩)
    (c6 : PySem.W.codeIn K cd6 "need_loop" = true)
    (k6 : PySem.W.keepIn K (.ref f6) = true)
    {f7 : Addr} {od7 an7 : Option Addr} {sl7 : Array (Option Value)} {oc7 kV7 dc7 pm7 cd7 ct7 : Value}
    (a7 : PySem.W.nsIn K mainGlobals "after" = some (some (.ref f7)))
    (l7 : K.lookup f7 = some ⟨oc7, od7, .func (PySem.W.fnOf "after" "after" (defArgs s_after) (defBody s_after) (defScope s_after) .none kV7 dc7 pm7 an7 cd7 ct7), sl7⟩)
    (c7 : PySem.W.codeIn K cd7 "after" = true)
    (k7 : PySem.W.keepIn K (.ref f7) = true)
    {f8 : Addr} {od8 an8 : Option Addr} {sl8 : Array (Option Value)} {oc8 kV8 dc8 pm8 cd8 ct8 : Value}
    (a8 : PySem.W.nsIn K mainGlobals "run" = some (some (.ref f8)))
    (l8 : K.lookup f8 = some ⟨oc8, od8, .func (PySem.W.fnOf "run" "run" (defArgs s_run) (defBody s_run) (defScope s_run) .none kV8 dc8 pm8 an8 cd8 ct8), sl8⟩)
    (c8 : PySem.W.codeIn K cd8 "run" = true)
    (k8 : PySem.W.keepIn K (.ref f8) = true)
    {f9 : Addr} {od9 an9 : Option Addr} {sl9 : Array (Option Value)} {oc9 kV9 dc9 pm9 cd9 ct9 : Value}
    (a9 : PySem.W.nsIn K mainGlobals "is_reason" = some (some (.ref f9)))
    (l9 : K.lookup f9 = some ⟨oc9, od9, .func (PySem.W.fnOf "is_reason" "is_reason" (defArgs s_is_reason) (defBody s_is_reason) (defScope s_is_reason) .none kV9 dc9 pm9 an9 cd9 ct9), sl9⟩)
    (c9 : PySem.W.codeIn K cd9 "is_reason" = true)
    (k9 : PySem.W.keepIn K (.ref f9) = true)
    {f10 : Addr} {od10 an10 : Option Addr} {sl10 : Array (Option Value)} {oc10 kV10 dc10 pm10 cd10 ct10 : Value}
    (a10 : PySem.W.nsIn K mainGlobals "are_spots" = some (some (.ref f10)))
    (l10 : K.lookup f10 = some ⟨oc10, od10, .func (PySem.W.fnOf "are_spots" "are_spots" (defArgs s_are_spots) (defBody s_are_spots) (defScope s_are_spots) .none kV10 dc10 pm10 an10 cd10 ct10), sl10⟩)
    (c10 : PySem.W.codeIn K cd10 "are_spots" = true)
    (k10 : PySem.W.keepIn K (.ref f10) = true)
    {f11 : Addr} {od11 an11 : Option Addr} {sl11 : Array (Option Value)} {oc11 kV11 dc11 pm11 cd11 ct11 : Value}
    (a11 : PySem.W.nsIn K mainGlobals "told" = some (some (.ref f11)))
    (l11 : K.lookup f11 = some ⟨oc11, od11, .func (PySem.W.fnOf "told" "told" (defArgs s_told) (defBody s_told) (defScope s_told) .none kV11 dc11 pm11 an11 cd11 ct11), sl11⟩)
    (c11 : PySem.W.codeIn K cd11 "told" = true)
    (k11 : PySem.W.keepIn K (.ref f11) = true)
    {f12 : Addr} {od12 an12 : Option Addr} {sl12 : Array (Option Value)} {oc12 kV12 dc12 pm12 cd12 ct12 : Value}
    (a12 : PySem.W.nsIn K mainGlobals "most_turns" = some (some (.ref f12)))
    (l12 : K.lookup f12 = some ⟨oc12, od12, .func (PySem.W.fnOf "most_turns" "most_turns" (defArgs s_most_turns) (defBody s_most_turns) (defScope s_most_turns) .none kV12 dc12 pm12 an12 cd12 ct12), sl12⟩)
    (c12 : PySem.W.codeIn K cd12 "most_turns" = true)
    (k12 : PySem.W.keepIn K (.ref f12) = true)
    {f13 : Addr} {od13 an13 : Option Addr} {sl13 : Array (Option Value)} {oc13 kV13 dc13 pm13 cd13 ct13 : Value}
    (a13 : PySem.W.nsIn K mainGlobals "row_text" = some (some (.ref f13)))
    (l13 : K.lookup f13 = some ⟨oc13, od13, .func (PySem.W.fnOf "row_text" "row_text" (defArgs s_row_text) (defBody s_row_text) (defScope s_row_text) .none kV13 dc13 pm13 an13 cd13 ct13), sl13⟩)
    (c13 : PySem.W.codeIn K cd13 "row_text" = true)
    (k13 : PySem.W.keepIn K (.ref f13) = true)
    {f14 : Addr} {od14 an14 : Option Addr} {sl14 : Array (Option Value)} {oc14 kV14 dc14 pm14 cd14 ct14 : Value}
    (a14 : PySem.W.nsIn K mainGlobals "written" = some (some (.ref f14)))
    (l14 : K.lookup f14 = some ⟨oc14, od14, .func (PySem.W.fnOf "written" "written" (defArgs s_written) (defBody s_written) (defScope s_written) .none kV14 dc14 pm14 an14 cd14 ct14), sl14⟩)
    (c14 : PySem.W.codeIn K cd14 "written" = true)
    (k14 : PySem.W.keepIn K (.ref f14) = true)
    {f15 : Addr} {od15 an15 : Option Addr} {sl15 : Array (Option Value)} {oc15 kV15 dc15 pm15 cd15 ct15 : Value}
    (a15 : PySem.W.nsIn K mainGlobals "_law_cell_at" = some (some (.ref f15)))
    (l15 : K.lookup f15 = some ⟨oc15, od15, .func (PySem.W.fnOf "_law_cell_at" "_law_cell_at" (defArgs s_law_cell_at) (defBody s_law_cell_at) (defScope s_law_cell_at) .none kV15 dc15 pm15 an15 cd15 ct15), sl15⟩)
    (c15 : PySem.W.codeIn K cd15 "_law_cell_at" = true)
    (k15 : PySem.W.keepIn K (.ref f15) = true)
    {f16 : Addr} {od16 an16 : Option Addr} {sl16 : Array (Option Value)} {oc16 kV16 dc16 pm16 cd16 ct16 : Value}
    (a16 : PySem.W.nsIn K mainGlobals "_law_drawn" = some (some (.ref f16)))
    (l16 : K.lookup f16 = some ⟨oc16, od16, .func (PySem.W.fnOf "_law_drawn" "_law_drawn" (defArgs s_law_drawn) (defBody s_law_drawn) (defScope s_law_drawn) .none kV16 dc16 pm16 an16 cd16 ct16), sl16⟩)
    (c16 : PySem.W.codeIn K cd16 "_law_drawn" = true)
    (k16 : PySem.W.keepIn K (.ref f16) = true)
    {f17 : Addr} {od17 an17 : Option Addr} {sl17 : Array (Option Value)} {oc17 kV17 dc17 pm17 cd17 ct17 : Value}
    (a17 : PySem.W.nsIn K mainGlobals "_law_row_by" = some (some (.ref f17)))
    (l17 : K.lookup f17 = some ⟨oc17, od17, .func (PySem.W.fnOf "_law_row_by" "_law_row_by" (defArgs s_law_row_by) (defBody s_law_row_by) (defScope s_law_row_by) .none kV17 dc17 pm17 an17 cd17 ct17), sl17⟩)
    (c17 : PySem.W.codeIn K cd17 "_law_row_by" = true)
    (k17 : PySem.W.keepIn K (.ref f17) = true)
    {f18 : Addr} {od18 an18 : Option Addr} {sl18 : Array (Option Value)} {oc18 kV18 dc18 pm18 cd18 ct18 : Value}
    (a18 : PySem.W.nsIn K mainGlobals "_law_way_by" = some (some (.ref f18)))
    (l18 : K.lookup f18 = some ⟨oc18, od18, .func (PySem.W.fnOf "_law_way_by" "_law_way_by" (defArgs s_law_way_by) (defBody s_law_way_by) (defScope s_law_way_by) .none kV18 dc18 pm18 an18 cd18 ct18), sl18⟩)
    (c18 : PySem.W.codeIn K cd18 "_law_way_by" = true)
    (k18 : PySem.W.keepIn K (.ref f18) = true)
    {f19 : Addr} {od19 an19 : Option Addr} {sl19 : Array (Option Value)} {oc19 kV19 dc19 pm19 cd19 ct19 : Value}
    (a19 : PySem.W.nsIn K mainGlobals "_law_far" = some (some (.ref f19)))
    (l19 : K.lookup f19 = some ⟨oc19, od19, .func (PySem.W.fnOf "_law_far" "_law_far" (defArgs s_law_far) (defBody s_law_far) (defScope s_law_far) .none kV19 dc19 pm19 an19 cd19 ct19), sl19⟩)
    (c19 : PySem.W.codeIn K cd19 "_law_far" = true)
    (k19 : PySem.W.keepIn K (.ref f19) = true)
    {f20 : Addr} {od20 an20 : Option Addr} {sl20 : Array (Option Value)} {oc20 kV20 dc20 pm20 cd20 ct20 : Value}
    (a20 : PySem.W.nsIn K mainGlobals "_law_loop_by" = some (some (.ref f20)))
    (l20 : K.lookup f20 = some ⟨oc20, od20, .func (PySem.W.fnOf "_law_loop_by" "_law_loop_by" (defArgs s_law_loop_by) (defBody s_law_loop_by) (defScope s_law_loop_by) .none kV20 dc20 pm20 an20 cd20 ct20), sl20⟩)
    (c20 : PySem.W.codeIn K cd20 "_law_loop_by" = true)
    (k20 : PySem.W.keepIn K (.ref f20) = true)
    {f21 : Addr} {od21 an21 : Option Addr} {sl21 : Array (Option Value)} {oc21 kV21 dc21 pm21 cd21 ct21 : Value}
    (a21 : PySem.W.nsIn K mainGlobals "_law_name_of" = some (some (.ref f21)))
    (l21 : K.lookup f21 = some ⟨oc21, od21, .func (PySem.W.fnOf "_law_name_of" "_law_name_of" (defArgs s_law_name_of) (defBody s_law_name_of) (defScope s_law_name_of) .none kV21 dc21 pm21 an21 cd21 ct21), sl21⟩)
    (c21 : PySem.W.codeIn K cd21 "_law_name_of" = true)
    (k21 : PySem.W.keepIn K (.ref f21) = true)
    {f22 : Addr} {od22 an22 : Option Addr} {sl22 : Array (Option Value)} {oc22 kV22 dc22 pm22 cd22 ct22 : Value}
    (a22 : PySem.W.nsIn K mainGlobals "_law_copied" = some (some (.ref f22)))
    (l22 : K.lookup f22 = some ⟨oc22, od22, .func (PySem.W.fnOf "_law_copied" "_law_copied" (defArgs s_law_copied) (defBody s_law_copied) (defScope s_law_copied) .none kV22 dc22 pm22 an22 cd22 ct22), sl22⟩)
    (c22 : PySem.W.codeIn K cd22 "_law_copied" = true)
    (k22 : PySem.W.keepIn K (.ref f22) = true)
    {f23 : Addr} {od23 an23 : Option Addr} {sl23 : Array (Option Value)} {oc23 kV23 dc23 pm23 cd23 ct23 : Value}
    (a23 : PySem.W.nsIn K mainGlobals "_law_asked" = some (some (.ref f23)))
    (l23 : K.lookup f23 = some ⟨oc23, od23, .func (PySem.W.fnOf "_law_asked" "_law_asked" (defArgs s_law_asked) (defBody s_law_asked) (defScope s_law_asked) .none kV23 dc23 pm23 an23 cd23 ct23), sl23⟩)
    (c23 : PySem.W.codeIn K cd23 "_law_asked" = true)
    (k23 : PySem.W.keepIn K (.ref f23) = true)
    {f24 : Addr} {od24 an24 : Option Addr} {sl24 : Array (Option Value)} {oc24 kV24 dc24 pm24 cd24 ct24 : Value}
    (a24 : PySem.W.nsIn K mainGlobals "_law_word" = some (some (.ref f24)))
    (l24 : K.lookup f24 = some ⟨oc24, od24, .func (PySem.W.fnOf "_law_word" "_law_word" (defArgs s_law_word) (defBody s_law_word) (defScope s_law_word) .none kV24 dc24 pm24 an24 cd24 ct24), sl24⟩)
    (c24 : PySem.W.codeIn K cd24 "_law_word" = true)
    (k24 : PySem.W.keepIn K (.ref f24) = true)
    {f25 : Addr} {od25 an25 : Option Addr} {sl25 : Array (Option Value)} {oc25 kV25 dc25 pm25 cd25 ct25 : Value}
    (a25 : PySem.W.nsIn K mainGlobals "_law_put" = some (some (.ref f25)))
    (l25 : K.lookup f25 = some ⟨oc25, od25, .func (PySem.W.fnOf "_law_put" "_law_put" (defArgs s_law_put) (defBody s_law_put) (defScope s_law_put) .none kV25 dc25 pm25 an25 cd25 ct25), sl25⟩)
    (c25 : PySem.W.codeIn K cd25 "_law_put" = true)
    (k25 : PySem.W.keepIn K (.ref f25) = true)
    {f26 : Addr} {od26 an26 : Option Addr} {sl26 : Array (Option Value)} {oc26 kV26 dc26 pm26 cd26 ct26 : Value}
    (a26 : PySem.W.nsIn K mainGlobals "_law_row_bent" = some (some (.ref f26)))
    (l26 : K.lookup f26 = some ⟨oc26, od26, .func (PySem.W.fnOf "_law_row_bent" "_law_row_bent" (defArgs s_law_row_bent) (defBody s_law_row_bent) (defScope s_law_row_bent) .none kV26 dc26 pm26 an26 cd26 ct26), sl26⟩)
    (c26 : PySem.W.codeIn K cd26 "_law_row_bent" = true)
    (k26 : PySem.W.keepIn K (.ref f26) = true)
    {f27 : Addr} {od27 an27 : Option Addr} {sl27 : Array (Option Value)} {oc27 kV27 dc27 pm27 cd27 ct27 : Value}
    (a27 : PySem.W.nsIn K mainGlobals "_law_bent" = some (some (.ref f27)))
    (l27 : K.lookup f27 = some ⟨oc27, od27, .func (PySem.W.fnOf "_law_bent" "_law_bent" (defArgs s_law_bent) (defBody s_law_bent) (defScope s_law_bent) .none kV27 dc27 pm27 an27 cd27 ct27), sl27⟩)
    (c27 : PySem.W.codeIn K cd27 "_law_bent" = true)
    (k27 : PySem.W.keepIn K (.ref f27) = true)
    {f28 : Addr} {od28 an28 : Option Addr} {sl28 : Array (Option Value)} {oc28 kV28 dc28 pm28 cd28 ct28 : Value}
    (a28 : PySem.W.nsIn K mainGlobals "_law_is_row" = some (some (.ref f28)))
    (l28 : K.lookup f28 = some ⟨oc28, od28, .func (PySem.W.fnOf "_law_is_row" "_law_is_row" (defArgs s_law_is_row) (defBody s_law_is_row) (defScope s_law_is_row) .none kV28 dc28 pm28 an28 cd28 ct28), sl28⟩)
    (c28 : PySem.W.codeIn K cd28 "_law_is_row" = true)
    (k28 : PySem.W.keepIn K (.ref f28) = true)
    {f29 : Addr} {od29 an29 : Option Addr} {sl29 : Array (Option Value)} {oc29 kV29 dc29 pm29 cd29 ct29 : Value}
    (a29 : PySem.W.nsIn K mainGlobals "_law_is_loop" = some (some (.ref f29)))
    (l29 : K.lookup f29 = some ⟨oc29, od29, .func (PySem.W.fnOf "_law_is_loop" "_law_is_loop" (defArgs s_law_is_loop) (defBody s_law_is_loop) (defScope s_law_is_loop) .none kV29 dc29 pm29 an29 cd29 ct29), sl29⟩)
    (c29 : PySem.W.codeIn K cd29 "_law_is_loop" = true)
    (k29 : PySem.W.keepIn K (.ref f29) = true)
    {f30 : Addr} {od30 an30 : Option Addr} {sl30 : Array (Option Value)} {oc30 kV30 dc30 pm30 cd30 ct30 : Value}
    (a30 : PySem.W.nsIn K mainGlobals "law" = some (some (.ref f30)))
    (l30 : K.lookup f30 = some ⟨oc30, od30, .func (PySem.W.fnOf "law" "law" (defArgs s_law) (defBody s_law) (defScope s_law) .none kV30 dc30 pm30 an30 cd30 ct30), sl30⟩)
    (c30 : PySem.W.codeIn K cd30 "law" = true)
    (k30 : PySem.W.keepIn K (.ref f30) = true)
    (z_ValueError : PySem.W.nsIn K mainGlobals "ValueError" = some none)
    (z_all : PySem.W.nsIn K mainGlobals "all" = some none)
    (z_bool : PySem.W.nsIn K mainGlobals "bool" = some none)
    (z_int : PySem.W.nsIn K mainGlobals "int" = some none)
    (z_isinstance : PySem.W.nsIn K mainGlobals "isinstance" = some none)
    (z_len : PySem.W.nsIn K mainGlobals "len" = some none)
    (z_list : PySem.W.nsIn K mainGlobals "list" = some none)
    (z_max : PySem.W.nsIn K mainGlobals "max" = some none)
    (z_min : PySem.W.nsIn K mainGlobals "min" = some none)
    (z_range : PySem.W.nsIn K mainGlobals "range" = some none)
    (z_str : PySem.W.nsIn K mainGlobals "str" = some none)
    (z_tuple : PySem.W.nsIn K mainGlobals "tuple" = some none)
    {t_MOST_NAMES : Tok}
    (q_MOST_NAMES : PySem.W.nsIn K mainGlobals "MOST_NAMES" = some (some (.int 3 t_MOST_NAMES)))
    {t_MOST_WAYS : Tok}
    (q_MOST_WAYS : PySem.W.nsIn K mainGlobals "MOST_WAYS" = some (some (.int 3 t_MOST_WAYS)))
    {t_MOST_ASKS : Tok}
    (q_MOST_ASKS : PySem.W.nsIn K mainGlobals "MOST_ASKS" = some (some (.int 4 t_MOST_ASKS)))
    {t_FAR : Tok}
    (q_FAR : PySem.W.nsIn K mainGlobals "FAR" = some (some (.int 1000 t_FAR)))
    {C_LoopError : Addr}
    (g_LoopError : PySem.W.nsIn K mainGlobals "LoopError" = some (some (.ref C_LoopError)))
    (xi_LoopError : PySem.W.excIn K C_LoopError [.type "ValueError", .type "Exception", .type "BaseException", .type "object"] "ValueError.__new__" = true)
    (kC_LoopError : PySem.W.keepIn K (.ref C_LoopError) = true)
    (bC_LoopError : PySem.W.subIn K (.ref C_LoopError) (.type "BaseException") = some true)
    (tC_LoopError : PySem.W.typeIn K (.ref C_LoopError) = some (.type "type"))
    (iC_LoopError : PySem.W.isClsIn K C_LoopError = true)
    (vC_LoopError : PySem.W.subIn K (.ref C_LoopError) (.type "ValueError") = some true)
    {C_BadLoop : Addr}
    (g_BadLoop : PySem.W.nsIn K mainGlobals "BadLoop" = some (some (.ref C_BadLoop)))
    (xi_BadLoop : PySem.W.excIn K C_BadLoop [.type "ValueError", .type "Exception", .type "BaseException", .type "object"] "ValueError.__new__" = true)
    (kC_BadLoop : PySem.W.keepIn K (.ref C_BadLoop) = true)
    (bC_BadLoop : PySem.W.subIn K (.ref C_BadLoop) (.type "BaseException") = some true)
    (tC_BadLoop : PySem.W.typeIn K (.ref C_BadLoop) = some (.type "type"))
    (iC_BadLoop : PySem.W.isClsIn K C_BadLoop = true)
    (vC_BadLoop : PySem.W.subIn K (.ref C_BadLoop) (.type "ValueError") = some true)
    {C_BadState : Addr}
    (g_BadState : PySem.W.nsIn K mainGlobals "BadState" = some (some (.ref C_BadState)))
    (xi_BadState : PySem.W.excIn K C_BadState [.type "ValueError", .type "Exception", .type "BaseException", .type "object"] "ValueError.__new__" = true)
    (kC_BadState : PySem.W.keepIn K (.ref C_BadState) = true)
    (bC_BadState : PySem.W.subIn K (.ref C_BadState) (.type "BaseException") = some true)
    (tC_BadState : PySem.W.typeIn K (.ref C_BadState) = some (.type "type"))
    (iC_BadState : PySem.W.isClsIn K C_BadState = true)
    (vC_BadState : PySem.W.subIn K (.ref C_BadState) (.type "ValueError") = some true)
    {C_BadCount : Addr}
    (g_BadCount : PySem.W.nsIn K mainGlobals "BadCount" = some (some (.ref C_BadCount)))
    (xi_BadCount : PySem.W.excIn K C_BadCount [.type "ValueError", .type "Exception", .type "BaseException", .type "object"] "ValueError.__new__" = true)
    (kC_BadCount : PySem.W.keepIn K (.ref C_BadCount) = true)
    (bC_BadCount : PySem.W.subIn K (.ref C_BadCount) (.type "BaseException") = some true)
    (tC_BadCount : PySem.W.typeIn K (.ref C_BadCount) = some (.type "type"))
    (iC_BadCount : PySem.W.isClsIn K C_BadCount = true)
    (vC_BadCount : PySem.W.subIn K (.ref C_BadCount) (.type "ValueError") = some true)
    {C_BadGauge : Addr}
    (g_BadGauge : PySem.W.nsIn K mainGlobals "BadGauge" = some (some (.ref C_BadGauge)))
    (xi_BadGauge : PySem.W.excIn K C_BadGauge [.type "ValueError", .type "Exception", .type "BaseException", .type "object"] "ValueError.__new__" = true)
    (kC_BadGauge : PySem.W.keepIn K (.ref C_BadGauge) = true)
    (bC_BadGauge : PySem.W.subIn K (.ref C_BadGauge) (.type "BaseException") = some true)
    (tC_BadGauge : PySem.W.typeIn K (.ref C_BadGauge) = some (.type "type"))
    (iC_BadGauge : PySem.W.isClsIn K C_BadGauge = true)
    (vC_BadGauge : PySem.W.subIn K (.ref C_BadGauge) (.type "ValueError") = some true)
    {C_BadTable : Addr}
    (g_BadTable : PySem.W.nsIn K mainGlobals "BadTable" = some (some (.ref C_BadTable)))
    (xi_BadTable : PySem.W.excIn K C_BadTable [.type "ValueError", .type "Exception", .type "BaseException", .type "object"] "ValueError.__new__" = true)
    (kC_BadTable : PySem.W.keepIn K (.ref C_BadTable) = true)
    (bC_BadTable : PySem.W.subIn K (.ref C_BadTable) (.type "BaseException") = some true)
    (tC_BadTable : PySem.W.typeIn K (.ref C_BadTable) = some (.type "type"))
    (iC_BadTable : PySem.W.isClsIn K C_BadTable = true)
    (vC_BadTable : PySem.W.subIn K (.ref C_BadTable) (.type "ValueError") = some true)
    {C_BadText : Addr}
    (g_BadText : PySem.W.nsIn K mainGlobals "BadText" = some (some (.ref C_BadText)))
    (xi_BadText : PySem.W.excIn K C_BadText [.type "ValueError", .type "Exception", .type "BaseException", .type "object"] "ValueError.__new__" = true)
    (kC_BadText : PySem.W.keepIn K (.ref C_BadText) = true)
    (bC_BadText : PySem.W.subIn K (.ref C_BadText) (.type "BaseException") = some true)
    (tC_BadText : PySem.W.typeIn K (.ref C_BadText) = some (.type "type"))
    (iC_BadText : PySem.W.isClsIn K C_BadText = true)
    (vC_BadText : PySem.W.subIn K (.ref C_BadText) (.type "ValueError") = some true)
    (ea : PySem.W.specialIn K (.builtin "object.__class__") "__get__" = some (some (.builtin "getset_descriptor.__get__")))
    (eb : PySem.W.takesIn K (.builtin "object.__class__") = some true)
    (e1_BadLoop : PySem.W.findIn K (.ref C_BadLoop) "__getattribute__" = some (some (.builtin "BaseException.__getattribute__")))
    (e2_BadLoop : PySem.W.findIn K (.ref C_BadLoop) "__getattr__" = some none)
    (e3_BadLoop : PySem.W.hasDictIn K C_BadLoop = true)
    (e4_BadLoop : PySem.W.findIn K (.ref C_BadLoop) "__class__" = some (some (.builtin "object.__class__")))
    (e5_BadLoop : PySem.W.mroIn K C_BadLoop (.type "object") = some true)
    (s_BadLoop_LoopError : PySem.W.subIn K (.ref C_BadLoop) (.ref C_LoopError) = some true)
    (n_BadLoop_LoopError : (Value.ref C_BadLoop == Value.ref C_LoopError) = false)
    (s_BadLoop_BadState : PySem.W.subIn K (.ref C_BadLoop) (.ref C_BadState) = some false)
    (n_BadLoop_BadState : (Value.ref C_BadLoop == Value.ref C_BadState) = false)
    (s_BadLoop_BadCount : PySem.W.subIn K (.ref C_BadLoop) (.ref C_BadCount) = some false)
    (n_BadLoop_BadCount : (Value.ref C_BadLoop == Value.ref C_BadCount) = false)
    (s_BadLoop_BadGauge : PySem.W.subIn K (.ref C_BadLoop) (.ref C_BadGauge) = some false)
    (n_BadLoop_BadGauge : (Value.ref C_BadLoop == Value.ref C_BadGauge) = false)
    (s_BadLoop_BadTable : PySem.W.subIn K (.ref C_BadLoop) (.ref C_BadTable) = some false)
    (n_BadLoop_BadTable : (Value.ref C_BadLoop == Value.ref C_BadTable) = false)
    (s_BadLoop_BadText : PySem.W.subIn K (.ref C_BadLoop) (.ref C_BadText) = some false)
    (n_BadLoop_BadText : (Value.ref C_BadLoop == Value.ref C_BadText) = false)
    (hmath : ∀ ns : List Int, ns.length ≤ 63 → (∀ z ∈ ns, Builtin.Int.intBits z ≤ 1048576) → m_law [scr (ns.map .int)] = .ok (.bool true)) :
    ∃ fd : FuncData, (∀ (s : Shared) (v : Value), BindsTo s fd ⟨[v], []⟩ [("_law_script", v)]) ∧ ∀ base : Heap, K.In base → base.Ns mainGlobals mg → FnOk P w K mg base (L2.CX P w) 14 fa fd ["_law_script"] (spLaw K) := by
  have e := hfa.symm.trans (PySem.W.mg_of X G a30)
  cases e
  have T : Txt K mg := { b_ValueError := PySem.W.mg_none_of X G z_ValueError, b_all := PySem.W.mg_none_of X G z_all, b_bool := PySem.W.mg_none_of X G z_bool, b_int := PySem.W.mg_none_of X G z_int, b_isinstance := PySem.W.mg_none_of X G z_isinstance, b_len := PySem.W.mg_none_of X G z_len, b_list := PySem.W.mg_none_of X G z_list, b_max := PySem.W.mg_none_of X G z_max, b_min := PySem.W.mg_none_of X G z_min, b_range := PySem.W.mg_none_of X G z_range, b_str := PySem.W.mg_none_of X G z_str, b_tuple := PySem.W.mg_none_of X G z_tuple, k_MOST_NAMES := ⟨_, PySem.W.mg_of X G q_MOST_NAMES⟩, k_MOST_WAYS := ⟨_, PySem.W.mg_of X G q_MOST_WAYS⟩, k_MOST_ASKS := ⟨_, PySem.W.mg_of X G q_MOST_ASKS⟩, k_FAR := ⟨_, PySem.W.mg_of X G q_FAR⟩, c_LoopError := C_LoopError, x_LoopError := ⟨xi_LoopError, PySem.W.mg_of X G g_LoopError, kC_LoopError, bC_LoopError, tC_LoopError, iC_LoopError, vC_LoopError⟩, c_BadLoop := C_BadLoop, x_BadLoop := ⟨xi_BadLoop, PySem.W.mg_of X G g_BadLoop, kC_BadLoop, bC_BadLoop, tC_BadLoop, iC_BadLoop, vC_BadLoop⟩, c_BadState := C_BadState, x_BadState := ⟨xi_BadState, PySem.W.mg_of X G g_BadState, kC_BadState, bC_BadState, tC_BadState, iC_BadState, vC_BadState⟩, c_BadCount := C_BadCount, x_BadCount := ⟨xi_BadCount, PySem.W.mg_of X G g_BadCount, kC_BadCount, bC_BadCount, tC_BadCount, iC_BadCount, vC_BadCount⟩, c_BadGauge := C_BadGauge, x_BadGauge := ⟨xi_BadGauge, PySem.W.mg_of X G g_BadGauge, kC_BadGauge, bC_BadGauge, tC_BadGauge, iC_BadGauge, vC_BadGauge⟩, c_BadTable := C_BadTable, x_BadTable := ⟨xi_BadTable, PySem.W.mg_of X G g_BadTable, kC_BadTable, bC_BadTable, tC_BadTable, iC_BadTable, vC_BadTable⟩, c_BadText := C_BadText, x_BadText := ⟨xi_BadText, PySem.W.mg_of X G g_BadText, kC_BadText, bC_BadText, tC_BadText, iC_BadText, vC_BadText⟩, d_BadLoop := ⟨e1_BadLoop, e2_BadLoop, bC_BadLoop, e3_BadLoop, e4_BadLoop, ea, eb, e5_BadLoop⟩, s_BadLoop_LoopError := s_BadLoop_LoopError, n_BadLoop_LoopError := n_BadLoop_LoopError, s_BadLoop_BadState := s_BadLoop_BadState, n_BadLoop_BadState := n_BadLoop_BadState, s_BadLoop_BadCount := s_BadLoop_BadCount, n_BadLoop_BadCount := n_BadLoop_BadCount, s_BadLoop_BadGauge := s_BadLoop_BadGauge, n_BadLoop_BadGauge := n_BadLoop_BadGauge, s_BadLoop_BadTable := s_BadLoop_BadTable, n_BadLoop_BadTable := n_BadLoop_BadTable, s_BadLoop_BadText := s_BadLoop_BadText, n_BadLoop_BadText := n_BadLoop_BadText }
  have F0 := fun_mk (st := s_is_whole) l0 c0 k0
  have B0 := F0.binds (ps := ["thing"]) fun _ _ _ _ _ _ us hl => match us, hl with | [_], _ => rfl
  have F1 := fun_mk (st := s_are_whole) l1 c1 k1
  have B1 := F1.binds (ps := ["thing", "size"]) fun _ _ _ _ _ _ us hl => match us, hl with | [_, _], _ => rfl
  have F2 := fun_mk (st := s_is_row) l2 c2 k2
  have B2 := F2.binds (ps := ["thing", "many"]) fun _ _ _ _ _ _ us hl => match us, hl with | [_, _], _ => rfl
  have F3 := fun_mk (st := s_are_rows) l3 c3 k3
  have B3 := F3.binds (ps := ["thing", "many"]) fun _ _ _ _ _ _ us hl => match us, hl with | [_, _], _ => rfl
  have F4 := fun_mk (st := s_is_way) l4 c4 k4
  have B4 := F4.binds (ps := ["thing", "many"]) fun _ _ _ _ _ _ us hl => match us, hl with | [_, _], _ => rfl
  have F5 := fun_mk (st := s_is_loop) l5 c5 k5
  have B5 := F5.binds (ps := ["thing"]) fun _ _ _ _ _ _ us hl => match us, hl with | [_], _ => rfl
  have F6 := fun_mk (st := s_need_loop) l6 c6 k6
  have B6 := F6.binds (ps := ["thing"]) fun _ _ _ _ _ _ us hl => match us, hl with | [_], _ => rfl
  have F7 := fun_mk (st := s_after) l7 c7 k7
  have B7 := F7.binds (ps := ["loop", "number", "state"]) fun _ _ _ _ _ _ us hl => match us, hl with | [_, _, _], _ => rfl
  have F8 := fun_mk (st := s_run) l8 c8 k8
  have B8 := F8.binds (ps := ["loop", "state", "most"]) fun _ _ _ _ _ _ us hl => match us, hl with | [_, _, _], _ => rfl
  have F9 := fun_mk (st := s_is_reason) l9 c9 k9
  have B9 := F9.binds (ps := ["loop", "gauge", "reason"]) fun _ _ _ _ _ _ us hl => match us, hl with | [_, _, _], _ => rfl
  have F10 := fun_mk (st := s_are_spots) l10 c10 k10
  have B10 := F10.binds (ps := ["loop", "spots"]) fun _ _ _ _ _ _ us hl => match us, hl with | [_, _], _ => rfl
  have F11 := fun_mk (st := s_told) l11 c11 k11
  have B11 := F11.binds (ps := ["loop"]) fun _ _ _ _ _ _ us hl => match us, hl with | [_], _ => rfl
  have F12 := fun_mk (st := s_most_turns) l12 c12 k12
  have B12 := F12.binds (ps := ["loop", "gauge", "state"]) fun _ _ _ _ _ _ us hl => match us, hl with | [_, _, _], _ => rfl
  have F13 := fun_mk (st := s_row_text) l13 c13 k13
  have B13 := F13.binds (ps := ["word", "row"]) fun _ _ _ _ _ _ us hl => match us, hl with | [_, _], _ => rfl
  have F14 := fun_mk (st := s_written) l14 c14 k14
  have B14 := F14.binds (ps := ["loop"]) fun _ _ _ _ _ _ us hl => match us, hl with | [_], _ => rfl
  have F15 := fun_mk (st := s_law_cell_at) l15 c15 k15
  have B15 := F15.binds (ps := ["_law_script", "_law_k"]) fun _ _ _ _ _ _ us hl => match us, hl with | [_, _], _ => rfl
  have F16 := fun_mk (st := s_law_drawn) l16 c16 k16
  have B16 := F16.binds (ps := ["_law_seed", "_law_k"]) fun _ _ _ _ _ _ us hl => match us, hl with | [_, _], _ => rfl
  have F17 := fun_mk (st := s_law_row_by) l17 c17 k17
  have B17 := F17.binds (ps := ["_law_cell", "_law_k", "_law_many"]) fun _ _ _ _ _ _ us hl => match us, hl with | [_, _, _], _ => rfl
  have F18 := fun_mk (st := s_law_way_by) l18 c18 k18
  have B18 := F18.binds (ps := ["_law_cell", "_law_many"]) fun _ _ _ _ _ _ us hl => match us, hl with | [_, _], _ => rfl
  have F19 := fun_mk (st := s_law_far) l19 c19 k19
  have B19 := F19.binds (ps := ["_law_row"]) fun _ _ _ _ _ _ us hl => match us, hl with | [_], _ => rfl
  have F20 := fun_mk (st := s_law_loop_by) l20 c20 k20
  have B20 := F20.binds (ps := ["_law_script", "_law_at"]) fun _ _ _ _ _ _ us hl => match us, hl with | [_, _], _ => rfl
  have F21 := fun_mk (st := s_law_name_of) l21 c21 k21
  have B21 := F21.binds (ps := ["_law_error"]) fun _ _ _ _ _ _ us hl => match us, hl with | [_], _ => rfl
  have F22 := fun_mk (st := s_law_copied) l22 c22 k22
  have B22 := F22.binds (ps := ["_law_thing"]) fun _ _ _ _ _ _ us hl => match us, hl with | [_], _ => rfl
  have F23 := fun_mk (st := s_law_asked) l23 c23 k23
  have B23 := F23.binds (ps := ["_law_which", "_law_thing"]) fun _ _ _ _ _ _ us hl => match us, hl with | [_, _], _ => rfl
  have F24 := fun_mk (st := s_law_word) l24 c24 k24
  have B24 := F24.binds (ps := ["_law_which", "_law_thing"]) fun _ _ _ _ _ _ us hl => match us, hl with | [_, _], _ => rfl
  have F25 := fun_mk (st := s_law_put) l25 c25 k25
  have B25 := F25.binds (ps := ["_law_row", "_law_at", "_law_thing"]) fun _ _ _ _ _ _ us hl => match us, hl with | [_, _, _], _ => rfl
  have F26 := fun_mk (st := s_law_row_bent) l26 c26 k26
  have B26 := F26.binds (ps := ["_law_rows", "_law_cell", "_law_at"]) fun _ _ _ _ _ _ us hl => match us, hl with | [_, _, _], _ => rfl
  have F27 := fun_mk (st := s_law_bent) l27 c27 k27
  have B27 := F27.binds (ps := ["_law_loop", "_law_cell", "_law_at"]) fun _ _ _ _ _ _ us hl => match us, hl with | [_, _, _], _ => rfl
  have F28 := fun_mk (st := s_law_is_row) l28 c28 k28
  have B28 := F28.binds (ps := ["_law_thing", "_law_many"]) fun _ _ _ _ _ _ us hl => match us, hl with | [_, _], _ => rfl
  have F29 := fun_mk (st := s_law_is_loop) l29 c29 k29
  have B29 := F29.binds (ps := ["_law_thing"]) fun _ _ _ _ _ _ us hl => match us, hl with | [_], _ => rfl
  have F30 := fun_mk (st := s_law) l30 c30 k30
  refine ⟨PySem.W.fnOf "law" "law" (defArgs s_law) (defBody s_law) (defScope s_law) .none kV30 dc30 pm30 an30 cd30 ct30, fun s v => .of_eq rfl, fun base _ _ => ?_⟩
  have c_is_whole : Cal P w K mg base "is_whole" ["thing"] 1 m_is_whole := ⟨f0, _, ok_is_whole T F0, PySem.W.mg_of X G a0, k0, B0⟩
  have c_are_whole : Cal P w K mg base "are_whole" ["thing", "size"] 2 m_are_whole := ⟨f1, _, ok_are_whole T c_is_whole F1, PySem.W.mg_of X G a1, k1, B1⟩
  have c_is_row : Cal P w K mg base "is_row" ["thing", "many"] 3 m_is_row := ⟨f2, _, ok_is_row T c_are_whole F2, PySem.W.mg_of X G a2, k2, B2⟩
  have c_are_rows : Cal P w K mg base "are_rows" ["thing", "many"] 4 m_are_rows := ⟨f3, _, ok_are_rows T c_is_row F3, PySem.W.mg_of X G a3, k3, B3⟩
  have c_is_way : Cal P w K mg base "is_way" ["thing", "many"] 5 m_is_way := ⟨f4, _, ok_is_way T c_are_rows F4, PySem.W.mg_of X G a4, k4, B4⟩
  have c_is_loop : Cal P w K mg base "is_loop" ["thing"] 6 m_is_loop := ⟨f5, _, ok_is_loop T c_is_whole c_is_way F5, PySem.W.mg_of X G a5, k5, B5⟩
  have c_need_loop : Cal P w K mg base "need_loop" ["thing"] 7 m_need_loop := ⟨f6, _, ok_need_loop T c_is_loop F6, PySem.W.mg_of X G a6, k6, B6⟩
  have c_after : Cal P w K mg base "after" ["loop", "number", "state"] 8 m_after := ⟨f7, _, ok_after T c_need_loop F7, PySem.W.mg_of X G a7, k7, B7⟩
  have c_run : Cal P w K mg base "run" ["loop", "state", "most"] 8 m_run := ⟨f8, _, ok_run T c_need_loop F8, PySem.W.mg_of X G a8, k8, B8⟩
  have c_is_reason : Cal P w K mg base "is_reason" ["loop", "gauge", "reason"] 8 m_is_reason := ⟨f9, _, ok_is_reason T c_need_loop F9, PySem.W.mg_of X G a9, k9, B9⟩
  have c_are_spots : Cal P w K mg base "are_spots" ["loop", "spots"] 8 m_are_spots := ⟨f10, _, ok_are_spots T c_need_loop F10, PySem.W.mg_of X G a10, k10, B10⟩
  have c_told : Cal P w K mg base "told" ["loop"] 8 m_told := ⟨f11, _, ok_told T c_need_loop F11, PySem.W.mg_of X G a11, k11, B11⟩
  have c_most_turns : Cal P w K mg base "most_turns" ["loop", "gauge", "state"] 8 m_most_turns := ⟨f12, _, ok_most_turns T c_need_loop F12, PySem.W.mg_of X G a12, k12, B12⟩
  have c_row_text : Cal P w K mg base "row_text" ["word", "row"] 1 m_row_text := ⟨f13, _, ok_row_text T F13, PySem.W.mg_of X G a13, k13, B13⟩
  have c_written : Cal P w K mg base "written" ["loop"] 8 m_written := ⟨f14, _, ok_written T c_need_loop c_row_text F14, PySem.W.mg_of X G a14, k14, B14⟩
  have c_law_cell_at : Cal P w K mg base "_law_cell_at" ["_law_script", "_law_k"] 1 m_law_cell_at := ⟨f15, _, ok_law_cell_at T F15, PySem.W.mg_of X G a15, k15, B15⟩
  have c_law_drawn : Cal P w K mg base "_law_drawn" ["_law_seed", "_law_k"] 1 m_law_drawn := ⟨f16, _, ok_law_drawn T F16, PySem.W.mg_of X G a16, k16, B16⟩
  have c_law_row_by : Cal P w K mg base "_law_row_by" ["_law_cell", "_law_k", "_law_many"] 2 m_law_row_by := ⟨f17, _, ok_law_row_by T c_law_drawn F17, PySem.W.mg_of X G a17, k17, B17⟩
  have c_law_way_by : Cal P w K mg base "_law_way_by" ["_law_cell", "_law_many"] 3 m_law_way_by := ⟨f18, _, ok_law_way_by T c_law_drawn c_law_row_by F18, PySem.W.mg_of X G a18, k18, B18⟩
  have c_law_far : Cal P w K mg base "_law_far" ["_law_row"] 1 m_law_far := ⟨f19, _, ok_law_far T F19, PySem.W.mg_of X G a19, k19, B19⟩
  have c_law_loop_by : Cal P w K mg base "_law_loop_by" ["_law_script", "_law_at"] 4 m_law_loop_by := ⟨f20, _, ok_law_loop_by T c_law_cell_at c_law_way_by c_law_far F20, PySem.W.mg_of X G a20, k20, B20⟩
  have c_law_name_of : CalX P w K mg base "_law_name_of" 1 T.c_LoopError nmOf := ⟨f21, _, "_law_error", PySem.W.mg_of X G a21, k21, B21, fun c z => nmOf_all (fun c z => ∃ Dc, clsV mg c = .ref Dc ∧ PySem.W.exmOne K (.ref Dc) (.ref T.c_LoopError) = some true ∧ FnX P w K mg base 1 f21 _ ["_law_error"] Dc z)
      ⟨T.c_BadLoop, by unfold clsV; rw [T.x_BadLoop.gC]; rfl, exm_sub T.x_LoopError T.s_BadLoop_LoopError, ok_law_name_of T T.d_BadLoop kit_self (kit_sub T.x_BadState T.s_BadLoop_BadState T.n_BadLoop_BadState) (kit_sub T.x_BadCount T.s_BadLoop_BadCount T.n_BadLoop_BadCount) (kit_sub T.x_BadGauge T.s_BadLoop_BadGauge T.n_BadLoop_BadGauge) (kit_sub T.x_BadTable T.s_BadLoop_BadTable T.n_BadLoop_BadTable) (kit_sub T.x_BadText T.s_BadLoop_BadText T.n_BadLoop_BadText) (kit_val T.x_BadLoop) res_BadLoop F21⟩⟩
  have c_law_copied := all_law_copied (P := P) (w := w) (base := base) T F22 B22 (PySem.W.mg_of X G a22) 12
  have c_law_asked : Cal P w K mg base "_law_asked" ["_law_which", "_law_thing"] 9 m_law_asked := ⟨f23, _, ok_law_asked T c_written c_need_loop c_after c_run c_told c_is_reason c_are_spots c_most_turns F23, PySem.W.mg_of X G a23, k23, B23⟩
  have c_law_word : Cal P w K mg base "_law_word" ["_law_which", "_law_thing"] 10 m_law_word := ⟨f24, _, ok_law_word T c_law_asked c_law_name_of F24, PySem.W.mg_of X G a24, k24, B24⟩
  have c_law_put : Cal P w K mg base "_law_put" ["_law_row", "_law_at", "_law_thing"] 1 m_law_put := ⟨f25, _, ok_law_put T F25, PySem.W.mg_of X G a25, k25, B25⟩
  have c_law_row_bent : Cal P w K mg base "_law_row_bent" ["_law_rows", "_law_cell", "_law_at"] 2 m_law_row_bent := ⟨f26, _, ok_law_row_bent T c_law_put F26, PySem.W.mg_of X G a26, k26, B26⟩
  have c_law_bent : Cal P w K mg base "_law_bent" ["_law_loop", "_law_cell", "_law_at"] 3 m_law_bent := ⟨f27, _, ok_law_bent T c_law_row_bent F27, PySem.W.mg_of X G a27, k27, B27⟩
  have c_law_is_row : Cal P w K mg base "_law_is_row" ["_law_thing", "_law_many"] 1 m_law_is_row := ⟨f28, _, ok_law_is_row T F28, PySem.W.mg_of X G a28, k28, B28⟩
  have c_law_is_loop : Cal P w K mg base "_law_is_loop" ["_law_thing"] 2 m_law_is_loop := ⟨f29, _, ok_law_is_loop T c_law_is_row F29, PySem.W.mg_of X G a29, k29, B29⟩
  exact (ok_law T c_law_loop_by c_law_cell_at c_law_copied c_law_is_loop c_law_bent c_law_word c_need_loop F30).imp (spLaw_of hmath)
end
end PL

namespace PL
open PySem
/-! ## the mathematics: how the mirrors reckon -/
section
variable {a b : SF} {f g h : EF} {l : LF} {t u : TF} {e : Env} {d : D} {i : Nat}
@[simp] theorem x_seqN : sSeq sNil b e = b e := rfl
theorem seq_next {e' : Env} (h : a e = .next e') : sSeq a b e = b e' := by unfold sSeq; rw [h]
theorem seq_ret (h : a e = .ret d) : sSeq a b e = .ret d := by unfold sSeq; rw [h]
theorem seq_err {c : Str} (h : a e = .err c) : sSeq a b e = .err c := by unfold sSeq; rw [h]
theorem set_ok (h : f e = .ok d) : sSet (gN i) f e = .next (e.set i (.sh d)) := by unfold sSet; rw [h]; rfl
theorem do_ok (h : f e = .ok d) : sDo f e = .next e := by unfold sDo; rw [h]; rfl
theorem do_err {c : Str} (h : f e = .err c) : sDo f e = .err c := by unfold sDo; rw [h]; rfl
theorem ret_ok (h : f e = .ok d) : sRet f e = .ret d := by unfold sRet; rw [h]; rfl
theorem ret_to {d' : D} (h : f e = .ok d) (h2 : d = d') : sRet f e = .ret d' := by unfold sRet; rw [h, h2]; rfl
theorem if_t (h : t e = .ok true) : sIf t a b e = a e := by unfold sIf; rw [h]; rfl
theorem if_f (h : t e = .ok false) : sIf t a b e = b e := by unfold sIf; rw [h]; rfl
theorem if_b {k : Bool} (h : t e = .ok k) : sIf t a b e = if k then a e else b e := by unfold sIf; rw [h]; rfl
theorem qv {k : Bool} (h : f e = .ok (.bool k)) : qV f e = .ok k := by unfold qV; rw [h]; rfl
theorem qnot {k : Bool} (h : t e = .ok k) : qNot t e = .ok (!k) := by unfold qNot; rw [h]; rfl
theorem qor {k j : Bool} (h : t e = .ok k) (h2 : k = false → u e = .ok j) : qOr t u e = .ok (k || j) := by
  unfold qOr; rw [h]; cases k
  · exact h2 rfl
  · rfl
theorem qand {k j : Bool} (h : t e = .ok k) (h2 : k = true → u e = .ok j) : qAnd t u e = .ok (k && j) := by
  unfold qAnd; rw [h]; cases k
  · rfl
  · exact h2 rfl
theorem eand {k j : Bool} (h : f e = .ok (.bool k)) (h2 : k = true → g e = .ok (.bool j)) : eAnd f g e = .ok (.bool (k && j)) := by
  unfold eAnd; rw [h]; cases k
  · rfl
  · exact h2 rfl
theorem eor {k j : Bool} (h : f e = .ok (.bool k)) (h2 : k = false → g e = .ok (.bool j)) : eOr f g e = .ok (.bool (k || j)) := by
  unfold eOr; rw [h]; cases k
  · exact h2 rfl
  · rfl
theorem enot {k : Bool} (h : f e = .ok (.bool k)) : eNot f e = .ok (.bool (!k)) := by unfold eNot; rw [h]; rfl
theorem op2 {o : D → D → R D} {x y : D} {r : R D} (h1 : f e = .ok x) (h2 : g e = .ok y) (h3 : o x y = r) : e2 o f g e = r := by unfold e2; rw [h1, R.bind_ok, h2, R.bind_ok]; exact h3
theorem op1 {o : D → R D} {x : D} {r : R D} (h1 : f e = .ok x) (h3 : o x = r) : e1 o f e = r := by unfold e1; rw [h1]; exact h3
theorem ch2 {o o' : D → D → R D} {x y z : D} {k j : Bool} (h1 : f e = .ok x) (h2 : g e = .ok y) (h3 : o x y = .ok (.bool k)) (h4 : k = true → h e = .ok z ∧ o' y z = .ok (.bool j)) : eCh o o' f g h e = .ok (.bool (k && j)) := by
  unfold eCh; rw [h1, R.bind_ok, h2, R.bind_ok, h3]
  cases k
  · rfl
  · obtain ⟨h5, h6⟩ := h4 rfl
    show (h e).bind _ = _
    rw [h5]; exact h6
theorem cl1 {m : List D → R D} {x : D} {r : R D} (h1 : f e = .ok x) (h : m [x] = r) : eC m (aC f aN) e = r := by unfold eC aC aN; rw [h1]; exact h
theorem cl2 {m : List D → R D} {x y : D} {r : R D} (h1 : f e = .ok x) (h2 : g e = .ok y) (h : m [x, y] = r) : eC m (aC f (aC g aN)) e = r := by
  show ((f e).bind fun d => ((g e).bind fun d2 => R.ok [d2]).bind fun ds => R.ok (d :: ds)).bind m = r
  rw [h1, R.bind_ok, h2]; exact h
theorem cl3 {m : List D → R D} {x y z : D} {r : R D} {q : EF} (h1 : f e = .ok x) (h2 : g e = .ok y) (h3 : q e = .ok z) (h : m [x, y, z] = r) : eC m (aC f (aC g (aC q aN))) e = r := by
  show ((f e).bind fun d => ((g e).bind fun d2 => ((q e).bind fun d3 => R.ok [d3]).bind fun ds => R.ok (d2 :: ds)).bind fun ds => R.ok (d :: ds)).bind m = r
  rw [h1, R.bind_ok, h2, R.bind_ok, h3]; exact h
theorem el {xs : List D} (h : l e = .ok xs) : eL l e = .ok (.list xs) := by unfold eL; rw [h]; rfl
theorem et {xs : List D} (h : l e = .ok xs) : eT l e = .ok (.tuple xs) := by unfold eT; rw [h]; rfl
theorem ac {xs : List D} (h1 : f e = .ok d) (h : l e = .ok xs) : aC f l e = .ok (d :: xs) := by unfold aC; rw [h1, R.bind_ok, h]; rfl
theorem an : aN e = .ok [] := rfl
theorem eif_t (h : t e = .ok true) : eIf t f g e = f e := by unfold eIf; rw [h]; rfl
theorem eif_f (h : t e = .ok false) : eIf t f g e = g e := by unfold eIf; rw [h]; rfl
theorem il {xs : List D} (h : f e = .ok (.list xs)) : iL f e = .ok xs := by unfold iL; rw [h]; rfl
theorem smI_of {n : Int} (h1 : -1000000 ≤ n) (h2 : n ≤ 1000000) : smI n = true := by
  unfold smI; rw [decide_eq_true_eq]; omega
theorem ir1 {n : Int} (h : f e = .ok (.int n)) (h1 : -1000000 ≤ n) (h2 : n ≤ 1000000) : iR1 f e = .ok (rng 0 n) := by
  unfold iR1; rw [h, R.bind_ok]
  show (if smI n = true then R.ok (rng 0 n) else .stk) = _
  rw [if_pos (smI_of h1 h2)]
theorem rng_mem {lo n : Int} {x : D} (h : x ∈ rng lo n) : ∃ k : Int, x = .int k ∧ lo ≤ k ∧ k < n := by
  unfold rng at h
  obtain ⟨k, hk, rfl⟩ := List.mem_map.mp h
  have := List.mem_range.mp hk
  exact ⟨_, rfl, by omega, by omega⟩
theorem rng_length (lo n : Int) : (rng lo n).length = (n - lo).toNat := by unfold rng; rw [List.length_map, List.length_range]
theorem fn_ret {n : Nat} {s : SF} {ds : List D} (h : s (ds.map .sh ++ List.replicate (n - ds.length) .no) = .ret d) : fnR n s ds = .ok d := by unfold fnR; rw [h]
theorem fn_err {n : Nat} {s : SF} {ds : List D} {c : Str} (h : s (ds.map .sh ++ List.replicate (n - ds.length) .no) = .err c) : fnR n s ds = .err c := by unfold fnR; rw [h]
theorem fn_next {n : Nat} {s : SF} {ds : List D} {e : Env} (h : s (ds.map .sh ++ List.replicate (n - ds.length) .no) = .next e) : fnR n s ds = .ok .none := by unfold fnR; rw [h]
end
section
variable {g : GF} {t : TF} {f : EF} {e : Env} {it : LF} {vs : List Nat}
theorem cLoop_map (F : D → D) : ∀ {xs : List D}, (∀ x ∈ xs, ∃ e1, g x e = .ok e1 ∧ t e1 = .ok true ∧ f e1 = .ok (F x)) → cLoop g t f e xs = .ok (xs.map F)
  | [], _ => rfl
  | x :: xs, h => by
    obtain ⟨e1, h1, h2, h3⟩ := h x List.mem_cons_self
    unfold cLoop
    rw [h1, R.calm_ok, R.bind_ok, h2, R.calm_ok, R.bind_ok, if_pos rfl, h3, R.calm_ok, R.bind_ok, cLoop_map F (xs := xs) fun y hy => h y (List.mem_cons_of_mem _ hy)]
    rfl
theorem cmp_map (F : D → D) {xs : List D} (hi : it e = .ok xs) (hl : xs.length ≤ szL) (h : ∀ x ∈ xs, ∃ e1, g x (wip vs e) = .ok e1 ∧ t e1 = .ok true ∧ f e1 = .ok (F x)) : cmp it vs g t f e = .ok (xs.map F) := by
  unfold cmp
  rw [hi, R.bind_ok, if_pos hl]
  exact cLoop_map F h
/-- each element answers something of that kind -/
theorem cmp_all (P : D → Prop) {xs : List D} (hi : it e = .ok xs) (hl : xs.length ≤ szL) (h : ∀ x ∈ xs, ∃ e1 d, g x (wip vs e) = .ok e1 ∧ t e1 = .ok true ∧ f e1 = .ok d ∧ P d) : ∃ ds, cmp it vs g t f e = .ok ds ∧ ds.length = xs.length ∧ ∀ d ∈ ds, P d := by
  have h' : ∀ x : D, ∃ d, x ∈ xs → ∃ e1, g x (wip vs e) = .ok e1 ∧ t e1 = .ok true ∧ f e1 = .ok d ∧ P d := fun x => by
    by_cases hx : x ∈ xs
    · obtain ⟨e1, d, h1⟩ := h x hx
      exact ⟨d, fun _ => ⟨e1, h1⟩⟩
    · exact ⟨.none, fun q => absurd q hx⟩
  have hF : ∀ x ∈ xs, ∃ e1, g x (wip vs e) = .ok e1 ∧ t e1 = .ok true ∧ f e1 = .ok (Classical.choose (h' x)) ∧ P (Classical.choose (h' x)) := fun x hx => Classical.choose_spec (h' x) hx
  refine ⟨xs.map fun x => Classical.choose (h' x), cmp_map _ hi hl fun x hx => ?_, List.length_map _, fun d hd => ?_⟩
  · obtain ⟨e1, h1, h2, h3, _⟩ := hF x hx
    exact ⟨e1, h1, h2, h3⟩
  · obtain ⟨x, hx, rfl⟩ := List.mem_map.mp hd
    obtain ⟨e1, _, _, _, h4⟩ := hF x hx
    exact h4
end
/-! ### values -/
theorem mulB_l {a b : Int} (h1 : -(2 ^ 64) < a) (h2 : a < 2 ^ 64) : mulB a b = true := by unfold mulB; rw [decide_eq_true (show -(2 ^ 64) < a ∧ a < 2 ^ 64 from ⟨h1, h2⟩)]; rfl
theorem mulB_r {a b : Int} (h1 : -(2 ^ 64) < b) (h2 : b < 2 ^ 64) : mulB a b = true := by unfold mulB; rw [decide_eq_true (show -(2 ^ 64) < b ∧ b < 2 ^ 64 from ⟨h1, h2⟩), Bool.or_true]; rfl
theorem mul_l {a b : Int} (h1 : -(2 ^ 64) < a) (h2 : a < 2 ^ 64) : opMul (.int a) (.int b) = .ok (.int (a * b)) := if_pos (mulB_l h1 h2)
theorem mul_r {a b : Int} (h1 : -(2 ^ 64) < b) (h2 : b < 2 ^ 64) : opMul (.int a) (.int b) = .ok (.int (a * b)) := if_pos (mulB_r h1 h2)
theorem mod_ok {a b : Int} (h : 0 < b) : opMod (.int a) (.int b) = .ok (.int (a % b)) := if_pos h
theorem div_ok {a b : Int} (h : 0 < b) (h2 : b < 2 ^ 200) : opDiv (.int a) (.int b) = .ok (.int (a / b)) := if_pos ⟨h, by
  have : b.natAbs < 2 ^ 200 := by omega
  have := (Nat.log2_lt (by omega)).mpr this
  omega⟩
theorem eqD_int (a b : Int) : eqD (.int a) (.int b) = .ok (decide (a = b)) := by
  unfold eqD same lowD isDic flatD
  by_cases h : a = b
  · simp [h]
  · simp [h, PyData.eqv]
theorem eq_int (a b : Int) : opEq (.int a) (.int b) = .ok (.bool (decide (a = b))) := by unfold opEq; rw [eqD_int]; rfl
theorem ne_int (a b : Int) : opNe (.int a) (.int b) = .ok (.bool (!decide (a = b))) := by unfold opNe; rw [eqD_int]; rfl
abbrev intL (xs : List Int) : D := .list (xs.map .int)
theorem asIs_map : ∀ xs : List Int, asIs (xs.map PyData.int) = .ok xs
  | [] => rfl
  | x :: xs => by show (asIs (xs.map PyData.int)).bind _ = _; rw [asIs_map xs]; rfl
theorem asBs_map : ∀ xs : List Bool, asBs (xs.map PyData.bool) = .ok xs
  | [] => rfl
  | x :: xs => by show (asBs (xs.map PyData.bool)).bind _ = _; rw [asBs_map xs]; rfl
theorem sum_ints (xs : List Int) : bSum [intL xs] = .ok (.int xs.sum) := by
  show (asIs (xs.map PyData.int)).bind _ = _
  rw [asIs_map]; rfl
theorem all_bools {A : Type} (xs : List A) (p : A → Bool) : bAll [.list (xs.map fun x => .bool (p x))] = .ok (.bool (xs.all p)) := by
  have e : (xs.map fun x => PyData.bool (p x)) = (xs.map p).map PyData.bool := by rw [List.map_map]; rfl
  rw [e]
  show (asBs ((xs.map p).map PyData.bool)).bind _ = _
  rw [asBs_map]
  show R.ok (PyData.bool ((xs.map p).all id)) = _
  rw [List.all_map]
  rfl
/-! ### checks -/
def isWh : D → Bool | .int _ => true | _ => false
theorem m_whole {d : D} (h : isScr d = false) : m_is_whole [d] = .ok (.bool (isWh d)) := by
  have h1 : bIsi .int [d] = .ok (.bool (isTy .int d)) := by
    show (if isScr d = true then R.stk else _) = _
    rw [h]; rfl
  have h2 : bIsi .bool [d] = .ok (.bool (isTy .bool d)) := by
    show (if isScr d = true then R.stk else _) = _
    rw [h]; rfl
  refine fn_ret (ret_to (eand (cl1 rfl h1) fun _ => enot (cl1 rfl h2)) ?_)
  cases d <;> rfl
def arW (n : Int) : D → Bool | .list xs => decide ((xs.length : Int) = n) && xs.all isWh | _ => false
def noScr : D → Prop | .list xs => xs.length ≤ szL ∧ ∀ x ∈ xs, isScr x = false | .dict (_ :: _) => False | _ => True
theorem m_arew {d : D} {n : Int} (h : noScr d) : m_are_whole [d, .int n] = .ok (.bool (arW n d)) := by
  have hs : isScr d = false := by
    cases d with
    | dict kvs => cases kvs with | nil => rfl | cons => exact h.elim
    | _ => rfl
  have h1 : bIsi .list [d] = .ok (.bool (isTy .list d)) := by
    show (if isScr d = true then R.stk else _) = _
    rw [hs]; rfl
  cases d with
  | list xs =>
    refine fn_ret (ret_to (eand (cl1 rfl h1) fun _ => eand (op2 (cl1 rfl rfl) rfl (eq_int _ _)) fun _ => cl1 (el (cmp_map (fun x => .bool (isWh x)) (il rfl) h.1 fun x hx => ⟨_, rfl, rfl, cl1 rfl (m_whole (h.2 x hx))⟩)) (all_bools xs isWh)) ?_)
    rfl
  | dict kvs => exact fn_ret (ret_to (eand (j := false) (cl1 rfl h1) fun q => Bool.noConfusion (show false = true from q)) rfl)
  | _ => exact fn_ret (ret_to (eand (j := false) (cl1 rfl h1) fun q => Bool.noConfusion (show false = true from q)) rfl)

/-! ### good loops -/
def Row (m : Int) (d : D) : Prop := ∃ xs : List Int, d = intL xs ∧ (xs.length : Int) = m + 1 ∧ ∀ x ∈ xs, -1000 ≤ x ∧ x ≤ 1000
def Way (m : Int) (d : D) : Prop := ∃ asks gives : List D, d = .tuple [.list asks, .list gives] ∧ asks.length ≤ 4 ∧ (gives.length : Int) = m ∧ (∀ r ∈ asks, Row m r) ∧ ∀ r ∈ gives, Row m r
def Loop (m : Int) (ws : List D) : Prop := 1 ≤ m ∧ m ≤ 3 ∧ 1 ≤ ws.length ∧ ws.length ≤ 3 ∧ ∀ w ∈ ws, Way m w
abbrev lp (m : Int) (ws : List D) : D := .tuple [.int m, .list ws]
theorem noScr_ints {xs : List Int} (h : xs.length ≤ szL) : noScr (intL xs) := ⟨by rw [List.length_map]; exact h, fun x hx => by obtain ⟨y, _, rfl⟩ := List.mem_map.mp hx; rfl⟩
theorem isWh_ints (xs : List Int) : (xs.map PyData.int).all isWh = true := by
  rw [List.all_eq_true]; intro x hx; obtain ⟨y, _, rfl⟩ := List.mem_map.mp hx; rfl
theorem arW_ints (xs : List Int) (n : Int) : arW n (intL xs) = decide ((xs.length : Int) = n) := by
  show (decide (((xs.map PyData.int).length : Int) = n) && (xs.map PyData.int).all isWh) = _
  rw [isWh_ints, Bool.and_true, List.length_map]
theorem all_true {A : Type} (xs : List A) : bAll [.list (xs.map fun _ => .bool true)] = .ok (.bool true) := (all_bools xs fun _ => true).trans (by rw [List.all_eq_true.mpr fun _ _ => rfl])
theorem m_row_ok {m : Int} {d : D} (h : Row m d) (hm : m ≤ 3) : m_is_row [d, .int m] = .ok (.bool true) := by
  obtain ⟨xs, rfl, hl, hx⟩ := h
  have hsz : xs.length ≤ szL := by unfold szL; omega
  refine fn_ret (ret_to (eand (cl2 rfl (op2 rfl rfl rfl) (m_arew (noScr_ints hsz))) fun _ => cl1 (el (cmp_map (fun _ => .bool true) (il rfl) (by rw [List.length_map]; exact hsz) fun x hx' => ?_)) (all_true _)) ?_)
  · obtain ⟨z, hz, rfl⟩ := List.mem_map.mp hx'
    have := hx z hz
    exact ⟨_, rfl, rfl, (ch2 (op2 rfl rfl rfl) rfl rfl fun _ => ⟨rfl, rfl⟩).trans (by rw [decide_eq_true (by omega), decide_eq_true (by omega)]; rfl)⟩
  · rw [arW_ints, decide_eq_true hl]; rfl
theorem m_rows_ok {m : Int} {rs : List D} (h : ∀ r ∈ rs, Row m r) (hm : m ≤ 3) (hl : rs.length ≤ szL) : m_are_rows [.list rs, .int m] = .ok (.bool true) := by
  refine fn_ret (ret_to (eand (cl1 rfl rfl) fun _ => cl1 (el (cmp_map (fun _ => .bool true) (il rfl) hl fun x hx' => ?_)) (all_true _)) rfl)
  exact ⟨_, rfl, rfl, cl2 rfl rfl (m_row_ok (h x hx') hm)⟩
theorem bLenL (xs : List D) : bLen [.list xs] = .ok (.int xs.length) := rfl
theorem m_way_ok {m : Int} {w : D} (h : Way m w) (h1 : 1 ≤ m) (hm : m ≤ 3) : m_is_way [w, .int m] = .ok (.bool true) := by
  obtain ⟨asks, gives, rfl, h2, h3, h4, h5⟩ := h
  have z1 : asks.length ≤ szL := by unfold szL; omega
  have z2 : gives.length ≤ szL := by unfold szL; omega
  refine fn_ret ((seq_next (if_f ?_)).trans ((seq_next (if_f ?_)).trans (ret_to (eand (op2 (cl1 (op2 rfl rfl rfl) rfl) rfl rfl) fun _ => op2 (cl1 (op2 rfl rfl rfl) rfl) rfl (eq_int _ _)) ?_)))
  · exact (qor (qnot (qv (cl1 rfl rfl))) fun _ => qv (op2 (cl1 rfl rfl) rfl (ne_int _ _))).trans rfl
  · exact (qor (qnot (qv (cl2 (op2 rfl rfl rfl) rfl (m_rows_ok h4 hm z1)))) fun _ => qnot (qv (cl2 (op2 rfl rfl rfl) rfl (m_rows_ok h5 hm z2)))).trans rfl
  · rw [decide_eq_true (show (asks.length : Int) ≤ 4 by omega), decide_eq_true h3]; rfl
theorem m_loop_ok {m : Int} {ws : List D} (h : Loop m ws) : m_is_loop [lp m ws] = .ok (.bool true) := by
  obtain ⟨h1, h2, h3, h4, h5⟩ := h
  have z1 : ws.length ≤ szL := by unfold szL; omega
  refine fn_ret ((seq_next (if_f ?_)).trans ((seq_next (if_f ?_)).trans (ret_ok (cl1 (el (cmp_map (fun _ => .bool true) (il (op2 rfl rfl rfl)) z1 fun x hx' => ?_)) (all_true _)))))
  · exact (qor (qnot (qv (cl1 rfl rfl))) fun _ => qor (qv (op2 (cl1 rfl rfl) rfl (ne_int _ _))) fun _ => qor (qnot (qv (cl1 (op2 rfl rfl rfl) (m_whole rfl)))) fun _ => qnot (qv (cl1 (op2 rfl rfl rfl) rfl))).trans rfl
  · refine (qor (qnot (qv (ch2 rfl (op2 rfl rfl rfl) rfl fun _ => ⟨rfl, rfl⟩))) fun _ => qnot (qv (ch2 rfl (cl1 (op2 rfl rfl rfl) rfl) rfl fun _ => ⟨rfl, rfl⟩))).trans ?_
    rw [decide_eq_true h1, decide_eq_true h2, decide_eq_true (show (1 : Int) ≤ (ws.length : Int) by omega), decide_eq_true (show (ws.length : Int) ≤ 3 by omega)]; rfl
  · exact ⟨_, rfl, rfl, cl2 rfl (op2 rfl rfl rfl) (m_way_ok (h5 x hx') h1 h2)⟩
theorem m_need_ok {m : Int} {ws : List D} (h : Loop m ws) : m_need_loop [lp m ws] = .ok .none := fn_next (if_f (qnot (qv (cl1 rfl (m_loop_ok h)))))
end PL

namespace PL
open PySem
/-! ### worths, states, gauges -/
abbrev sml (z : Int) : Prop := z.natAbs < 2 ^ 200
theorem mul_s {a b : Int} (ha : sml a) (hb : sml b) : opMul (.int a) (.int b) = .ok (.int (a * b)) := by
  refine if_pos ?_
  unfold mulB
  have h1 : a.natAbs.log2 < 200 := by
    by_cases h : a.natAbs = 0
    · rw [h]; decide
    · exact (Nat.log2_lt h).mpr ha
  have h2 : b.natAbs.log2 < 200 := by
    by_cases h : b.natAbs = 0
    · rw [h]; decide
    · exact (Nat.log2_lt h).mpr hb
  rw [decide_eq_true (show a.natAbs.log2 + b.natAbs.log2 < 1000000 by omega), Bool.or_true]
theorem sml_of {z : Int} (h1 : -1000000000000 ≤ z) (h2 : z ≤ 1000000000000) : sml z := by
  have : z.natAbs < 2 ^ 60 := by omega
  exact Nat.lt_trans this (by decide)
def mulD : D → D | .tuple [.int a, .int b] => .int (a * b) | _ => .none
def dotL (xs ys : List Int) : List Int := List.zipWith (· * ·) xs ys
theorem zip_mul : ∀ (xs ys : List Int), (zipD (xs.map .int) (ys.map .int)).map mulD = (dotL xs ys).map .int
  | [], _ => by cases ‹List Int› <;> rfl
  | _ :: _, [] => rfl
  | x :: xs, y :: ys => by
    show mulD (.tuple [.int x, .int y]) :: (zipD (xs.map .int) (ys.map .int)).map mulD = _
    rw [zip_mul xs ys]; rfl
theorem zip_mem : ∀ {xs ys : List Int} {d : D}, d ∈ zipD (xs.map .int) (ys.map .int) → ∃ a b, d = .tuple [.int a, .int b] ∧ a ∈ xs ∧ b ∈ ys
  | [], ys, d, h => by cases ys <;> cases h
  | _ :: _, [], d, h => by cases h
  | x :: xs, y :: ys, d, h => by
    rcases List.mem_cons.mp h with rfl | h
    · exact ⟨x, y, rfl, List.mem_cons_self, List.mem_cons_self⟩
    · obtain ⟨a, b, h1, h2, h3⟩ := zip_mem (xs := xs) (ys := ys) h
      exact ⟨a, b, h1, List.mem_cons_of_mem _ h2, List.mem_cons_of_mem _ h3⟩
theorem zip_len : ∀ (xs ys : List Int), (zipD (xs.map .int) (ys.map .int)).length ≤ xs.length
  | [], ys => by cases ys <;> exact Nat.le_refl _
  | _ :: _, [] => Nat.zero_le _
  | x :: xs, y :: ys => Nat.succ_le_succ (zip_len xs ys)
def dot (xs ys : List Int) : Int := (dotL xs ys).sum
theorem ix_last (l : List D) (d : D) : opIx (.list (l ++ [d])) (.int (-1)) = .ok d := by
  show toR ((ixN (l ++ [d]).length (-1)).bind fun j => (l ++ [d])[j]?) = _
  have e : ixN (l ++ [d]).length (-1) = some l.length := by
    unfold ixN
    rw [if_neg (by omega), if_pos (by rw [List.length_append]; simp; omega)]
    congr 1
    rw [List.length_append]; simp; omega
  rw [e]
  show toR ((l ++ [d])[l.length]?) = _
  rw [List.getElem?_append_right (Nat.le_refl _), Nat.sub_self]; rfl
end PL

namespace PL
open PySem
/-! ### what the law draws -/
theorem ints_of : ∀ {ds : List D} {P : Int → Prop}, (∀ d ∈ ds, ∃ z, d = .int z ∧ P z) → ∃ zs : List Int, ds = zs.map .int ∧ ∀ z ∈ zs, P z
  | [], _, _ => ⟨[], rfl, fun _ h => by cases h⟩
  | d :: ds, P, h => by
    obtain ⟨z, rfl, hz⟩ := h d List.mem_cons_self
    obtain ⟨zs, rfl, hzs⟩ := ints_of (ds := ds) (P := P) fun d hd => h d (List.mem_cons_of_mem _ hd)
    exact ⟨z :: zs, rfl, fun y hy => by
      rcases List.mem_cons.mp hy with rfl | hy
      · exact hz
      · exact hzs y hy⟩
theorem cmp_ints {g : GF} {t : TF} {f : EF} {e : Env} {it : LF} {vs : List Nat} (P : Int → Prop) {xs : List D} (hi : it e = .ok xs) (hl : xs.length ≤ 1000) (h : ∀ x ∈ xs, ∃ e1 z, g x (wip vs e) = .ok e1 ∧ t e1 = .ok true ∧ f e1 = .ok (.int z) ∧ P z) :
    ∃ zs : List Int, cmp it vs g t f e = .ok (zs.map .int) ∧ zs.length = xs.length ∧ ∀ z ∈ zs, P z := by
  obtain ⟨ds, h1, h2, h3⟩ := cmp_all (fun d => ∃ z, d = .int z ∧ P z) hi (Nat.le_trans hl (by decide)) fun x hx => by
    obtain ⟨e1, z, a1, a2, a3, a4⟩ := h x hx
    exact ⟨e1, .int z, a1, a2, a3, z, rfl, a4⟩
  obtain ⟨zs, rfl, h4⟩ := ints_of h3
  exact ⟨zs, h1, by rw [← h2, List.length_map], h4⟩
theorem ix_of {A : Type} {xs : List A} {k : Int} (h1 : 0 ≤ k) (h2 : k < xs.length) : ∃ a, xs[k.toNat]? = some a ∧ a ∈ xs ∧ atI xs k = some a := by
  have hk : k.toNat < xs.length := by omega
  refine ⟨xs[k.toNat], List.getElem?_eq_getElem hk, List.getElem_mem hk, ?_⟩
  unfold atI ixN
  rw [if_pos h1, if_pos h2]
  exact List.getElem?_eq_getElem hk
theorem ix_list {xs : List D} {k : Int} (h1 : 0 ≤ k) (h2 : k < xs.length) : ∃ d, xs[k.toNat]? = some d ∧ d ∈ xs ∧ opIx (.list xs) (.int k) = .ok d := by
  obtain ⟨a, h3, h4, h5⟩ := ix_of h1 h2
  exact ⟨a, h3, h4, by show toR (atI xs k) = _; rw [h5]; rfl⟩
theorem ix_ints {xs : List Int} {k : Int} (h1 : 0 ≤ k) (h2 : k < xs.length) : ∃ z, xs[k.toNat]? = some z ∧ z ∈ xs ∧ opIx (intL xs) (.int k) = .ok (.int z) := by
  obtain ⟨a, h3, h4, h5⟩ := ix_list (xs := xs.map .int) h1 (by rw [List.length_map]; exact h2)
  obtain ⟨z, hz, rfl⟩ := List.mem_map.mp h4
  rw [List.getElem?_map] at h3
  cases e : xs[k.toNat]? with
  | none => rw [e] at h3; cases h3
  | some y => rw [e] at h3; cases h3; exact ⟨z, rfl, hz, h5⟩
theorem add_list {xs ys : List D} (h : xs.length + ys.length ≤ 1000) : opAdd (.list xs) (.list ys) = .ok (.list (xs ++ ys)) := if_pos (Nat.le_trans h (by decide))
theorem fLoop_inv {g : GF} {b : SF} (I : Nat → Env → Prop) {xs : List D} {e : Env} (h0 : I 0 e) (step : ∀ i (hi : i < xs.length) e, I i e → ∃ e1 e2, g xs[i] e = .ok e1 ∧ b e1 = .next e2 ∧ I (i + 1) e2) : ∃ e', fLoop g b xs e = .next e' ∧ I xs.length e' := by
  suffices h : ∀ (ys : List D) (i : Nat) (e : Env), xs.drop i = ys → i ≤ xs.length → I i e → ∃ e', fLoop g b ys e = .next e' ∧ I xs.length e' from h xs 0 e rfl (Nat.zero_le _) h0
  intro ys
  induction ys with
  | nil =>
    intro i e h1 h2 h3
    have : i = xs.length := by
      have := List.drop_eq_nil_iff.mp h1
      omega
    exact ⟨e, rfl, this ▸ h3⟩
  | cons y ys ih =>
    intro i e h1 h2 h3
    have hlt : i < xs.length := by
      by_cases q : i < xs.length
      · exact q
      · rw [List.drop_eq_nil_of_le (by omega)] at h1; cases h1
    rw [List.drop_eq_getElem_cons hlt] at h1
    cases h1
    obtain ⟨e1, e2, a1, a2, a3⟩ := step i hlt e h3
    obtain ⟨e', b1, b2⟩ := ih (i + 1) e2 rfl hlt a3
    refine ⟨e', ?_, b2⟩
    unfold fLoop
    rw [a1]
    show (match b e1 with | .next e2 => _ | .cont e2 => _ | .brk e2 => _ | .ret d => _ | .err c => _ | .stk => _) = _
    rw [a2]
    exact b1
def draw (s k : Int) : Int := (((s + 101 * k + 7) * 48271 % 2147483647 / 7 + k) * 16807 % 2147483647) / 64
theorem draw_pos (s k : Int) : 0 ≤ draw s k := by unfold draw; omega
theorem m_drawn (s k : Int) : m_law_drawn [.int s, .int k] = .ok (.int (draw s k)) :=
  fn_ret ((seq_next (set_ok (op2 (op2 (op2 (op2 rfl (op2 rfl rfl (mul_l (by decide) (by decide))) rfl) rfl rfl) rfl (mul_r (by decide) (by decide))) rfl (mod_ok (by decide))))).trans
    (ret_ok (op2 (op2 (op2 (op2 (op2 rfl rfl (div_ok (by decide) (by decide))) rfl rfl) rfl (mul_r (by decide) (by decide))) rfl (mod_ok (by decide))) rfl (div_ok (by decide) (by decide)))))
def cell (ns : List Int) (k : Int) : Int := ns.getD k.toNat 0
abbrev scri (ns : List Int) : D := scr (ns.map .int)
theorem m_cell {ns : List Int} {k : Int} (h : 0 ≤ k) : m_law_cell_at [scri ns, .int k] = .ok (.int (cell ns k)) := by
  have hq : qV (e2 opLt (eB 1) (eC bLen (aC (eB 0) aN))) ([PyData.dict [(.none, .list (ns.map .int))], .int k].map SV.sh ++ []) = .ok (decide (k < (ns.map PyData.int).length)) := qv (op2 rfl (cl1 rfl rfl) rfl)
  by_cases c : k < (ns.map PyData.int).length
  · have hl : k < ns.length := by rw [List.length_map] at c; exact c
    obtain ⟨z, h3, _, h5⟩ := ix_ints h hl
    refine fn_ret (seq_ret ((if_t (hq.trans (by rw [decide_eq_true c]))).trans (ret_ok (op2 rfl rfl ?_))))
    show opIx (intL ns) (.int k) = _
    rw [h5]
    unfold cell
    rw [List.getD_eq_getElem?_getD, h3]; rfl
  · refine fn_ret ((seq_next (if_f (hq.trans (by rw [decide_eq_false c])))).trans (ret_to rfl ?_))
    unfold cell
    rw [List.getD_eq_getElem?_getD, List.getElem?_eq_none (by rw [List.length_map] at c; omega)]; rfl
/-- numbers of a row -/
abbrev near (z : Int) : Prop := -1000 ≤ z ∧ z ≤ 1000
theorem row_of {m : Int} {zs : List Int} (h : (zs.length : Int) = m + 1) (h2 : ∀ z ∈ zs, near z) : Row m (intL zs) := ⟨zs, rfl, h, h2⟩
theorem m_row_by {c k m : Int} (h1 : 1 ≤ m) (h3 : m ≤ 3) : ∃ d, m_law_row_by [.int c, .int k, .int m] = .ok d ∧ Row m d := by
  have hd : ∀ (e : Env) (f : EF) (j : Int), f e = .ok (.int j) → eV 0 e = .ok (.int c) → eC m_law_drawn (aC (eV 0) (aC f aN)) e = .ok (.int (draw c j)) := fun e f j hj h0 => cl2 h0 hj (m_drawn c j)
  have q : qV (e2 opEq (e2 opMod (eC m_law_drawn (aC (eV 0) (aC (e2 opAdd (e2 opMul (eK (.int 10)) (eB 1)) (eK (.int 9))) aN))) (eK (.int 8))) (eK (.int 3))) [.sh (.int c), .sh (.int k), .sh (.int m), .no] = .ok (decide (draw c (10 * k + 9) % 8 = 3)) :=
    qv (op2 (op2 (hd _ _ _ (op2 (op2 rfl rfl (mul_l (by decide) (by decide))) rfl rfl) rfl) rfl (mod_ok (by decide))) rfl (eq_int _ _))
  by_cases cc : draw c (10 * k + 9) % 8 = 3
  · obtain ⟨zs, a1, a2, a3⟩ := cmp_ints (it := iR1 (e2 opAdd (eB 2) (eK (.int 1)))) (vs := [3]) (g := gN 3) (t := qY) (f := e2 opSub (e2 opMod (eC m_law_drawn (aC (eV 0) (aC (e2 opAdd (e2 opMul (eK (.int 10)) (eB 1)) (eB 3)) aN))) (eK (.int 2001))) (eK (.int 1000))) (e := [.sh (.int c), .sh (.int k), .sh (.int m), .no]) near
      (ir1 (op2 rfl rfl rfl) (by omega) (by omega)) (by rw [rng_length]; omega) fun x hx => by
        obtain ⟨j, rfl, _, _⟩ := rng_mem hx
        exact ⟨_, _, rfl, rfl, op2 (op2 (hd _ _ _ (op2 (op2 rfl rfl (mul_l (by decide) (by decide))) rfl rfl) rfl) rfl (mod_ok (by decide))) rfl rfl, by unfold near; omega⟩
    refine ⟨intL zs, fn_ret (seq_ret ((if_t (q.trans (by rw [decide_eq_true cc]))).trans (ret_ok (el a1)))), row_of ?_ a3⟩
    rw [a2, rng_length]; omega
  · obtain ⟨zs, a1, a2, a3⟩ := cmp_ints (it := iR1 (eV 2)) (vs := [3]) (g := gN 3) (t := qY) (f := e2 opSub (e2 opMod (eC m_law_drawn (aC (eV 0) (aC (e2 opAdd (e2 opMul (eK (.int 10)) (eB 1)) (eB 3)) aN))) (eK (.int 5))) (eK (.int 2))) (e := [.sh (.int c), .sh (.int k), .sh (.int m), .no]) near
      (ir1 rfl (by omega) (by omega)) (by rw [rng_length]; omega) fun x hx => by
        obtain ⟨j, rfl, _, _⟩ := rng_mem hx
        exact ⟨_, _, rfl, rfl, op2 (op2 (hd _ _ _ (op2 (op2 rfl rfl (mul_l (by decide) (by decide))) rfl rfl) rfl) rfl (mod_ok (by decide))) rfl rfl, by unfold near; omega⟩
    have hl : zs.length = m.toNat := by rw [a2, rng_length]; omega
    refine ⟨intL (zs ++ [draw c (10 * k + 7) % 13 - 6]), fn_ret ((seq_next (if_f (q.trans (by rw [decide_eq_false cc])))).trans (ret_to (op2 (el a1) (el (ac (op2 (op2 (hd _ _ _ (op2 (op2 rfl rfl (mul_l (by decide) (by decide))) rfl rfl) rfl) rfl (mod_ok (by decide))) rfl rfl) rfl)) (add_list ?_)) ?_)), row_of ?_ fun z hz => ?_⟩
    · rw [List.length_map]; simp; omega
    · show _ = PyData.list ((zs ++ [draw c (10 * k + 7) % 13 - 6]).map .int)
      rw [List.map_append]; rfl
    · rw [List.length_append, hl]; simp; omega
    · rcases List.mem_append.mp hz with h | h
      · exact a3 z h
      · rw [List.mem_singleton.mp h]; unfold near; omega
end PL

namespace PL
open PySem
theorem reps_zero (m : Nat) : reps [.int 0] (m : Int) = (List.replicate m (0 : Int)).map .int := by
  unfold reps
  rw [Int.toNat_natCast]
  induction m with
  | zero => rfl
  | succ n ih => rw [List.replicate_succ, List.flatten_cons, ih, List.replicate_succ]; rfl
theorem mul_list {m : Int} (h1 : 0 ≤ m) (h2 : m ≤ 1000) : opMul (.list [.int 0]) (.int m) = .ok (intL (List.replicate m.toNat 0)) := by
  have e : reps [.int 0] m = (List.replicate m.toNat (0 : Int)).map .int := by
    have := reps_zero m.toNat
    rw [Int.toNat_of_nonneg h1] at this
    exact this
  show (if -(2 ^ 62) ≤ m ∧ m < 2 ^ 62 ∧ [PyData.int 0].length * m.toNat ≤ szL then R.ok (PyData.list (reps [.int 0] m)) else .stk) = _
  rw [if_pos ⟨by omega, by omega, by unfold szL; simp; omega⟩, e]
theorem sl_from {xs : List D} {m : Int} (h1 : 0 ≤ m) : opSl (.list xs) (some m) none = .ok (.list (xs.drop m.toNat)) := by
  show R.ok (PyData.list ((xs.drop (sIx xs.length 0 (some m))).take (sIx xs.length xs.length none - sIx xs.length 0 (some m)))) = _
  have e : sIx xs.length 0 (some m) = min m.toNat xs.length := by
    show (if m < 0 then (m + (xs.length : Int)).toNat else min m.toNat xs.length) = _
    rw [if_neg (by omega)]
  have e2 : sIx xs.length xs.length none = xs.length := rfl
  rw [e, e2]
  congr 2
  rcases Nat.le_total m.toNat xs.length with h | h
  · rw [Nat.min_eq_left h, List.take_of_length_le (by rw [List.length_drop]; omega)]
  · rw [Nat.min_eq_right h, List.drop_length, List.drop_eq_nil_of_le h, List.take_nil]
theorem esl_from {f g : EF} {e : Env} {xs : List D} {m : Int} (h : f e = .ok (.list xs)) (h2 : g e = .ok (.int m)) (h1 : 0 ≤ m) : eSl f (oS g) oN e = .ok (.list (xs.drop m.toNat)) := by
  unfold eSl oS oN
  rw [h, R.bind_ok, h2]
  exact sl_from h1
section
variable {c m : Int}
theorem m_way_by (h1 : 1 ≤ m) (h3 : m ≤ 3) : ∃ d, m_law_way_by [.int c, .int m] = .ok d ∧ Way m d := by
  have hd : ∀ (e : Env) (f : EF) (j : Int), f e = .ok (.int j) → eV 0 e = .ok (.int c) → eC m_law_drawn (aC (eV 0) (aC f aN)) e = .ok (.int (draw c j)) := fun e f j hj h0 => cl2 h0 hj (m_drawn c j)
  -- the asks
  have r4 : 0 ≤ draw c 4 % 4 ∧ draw c 4 % 4 < 4 := by omega
  obtain ⟨as1, a1, a2, a3⟩ := cmp_all (it := iR1 (e2 opMod (eC m_law_drawn (aC (eV 0) (aC (eK (.int 4)) aN))) (eK (.int 4)))) (vs := [4]) (g := gN 4) (t := qY) (f := eC m_law_row_by (aC (eV 0) (aC (e2 opAdd (eK (.int 2)) (eB 4)) (aC (eV 1) aN))))
    (e := [.sh (.int c), .sh (.int m), .sh (.int (draw c 3 % 4)), .no, .no, .no, .no, .no, .no, .no]) (Row m) (ir1 (op2 (hd _ _ _ rfl rfl) rfl (mod_ok (by decide))) (by omega) (by omega)) (by rw [rng_length]; unfold szL; omega) fun x hx => by
      obtain ⟨j, rfl, _, _⟩ := rng_mem hx
      obtain ⟨d, q1, q2⟩ := m_row_by (c := c) (k := 2 + j) h1 h3
      exact ⟨_, d, rfl, rfl, cl3 rfl (op2 rfl rfl rfl) rfl q1, q2⟩
  have a2' : as1.length ≤ 3 := by rw [a2, rng_length]; omega
  -- the gives
  obtain ⟨gs1, b1, b2, b3⟩ := cmp_all (it := iR1 (eV 1)) (vs := [4]) (g := gN 4) (t := qY) (f := eC m_law_row_by (aC (eV 0) (aC (e2 opAdd (eK (.int 6)) (eB 4)) (aC (eV 1) aN))))
    (e := [.sh (.int c), .sh (.int m), .sh (.int (draw c 3 % 4)), .sh (.list as1), .no, .no, .no, .no, .no, .no]) (Row m) (ir1 rfl (by omega) (by omega)) (by rw [rng_length]; unfold szL; omega) fun x hx => by
      obtain ⟨j, rfl, _, _⟩ := rng_mem hx
      obtain ⟨d, q1, q2⟩ := m_row_by (c := c) (k := 6 + j) h1 h3
      exact ⟨_, d, rfl, rfl, cl3 rfl (op2 rfl rfl rfl) rfl q1, q2⟩
  have b2' : (gs1.length : Int) = m := by rw [b2, rng_length]; omega
  -- the steps
  obtain ⟨st, s1, s2, s3⟩ := cmp_ints (it := iR1 (eV 1)) (vs := [4]) (g := gN 4) (t := qY) (f := e2 opSub (e2 opMod (eC m_law_drawn (aC (eV 0) (aC (e2 opAdd (eK (.int 100)) (eB 4)) aN))) (eK (.int 7))) (eK (.int 3)))
    (e := [.sh (.int c), .sh (.int m), .sh (.int (draw c 3 % 4)), .sh (.list as1), .no, .sh (.list gs1), .no, .no, .no, .no]) (fun z => -3 ≤ z ∧ z ≤ 3) (ir1 rfl (by omega) (by omega)) (by rw [rng_length]; omega) fun x hx => by
      obtain ⟨j, rfl, _, _⟩ := rng_mem hx
      exact ⟨_, _, rfl, rfl, op2 (op2 (hd _ _ _ (op2 rfl rfl rfl) rfl) rfl (mod_ok (by decide))) rfl rfl, by omega⟩
  have s2' : (st.length : Int) = m := by rw [s2, rng_length]; omega
  -- mode 1 or 2
  have g2 : ∃ gs2 : List D, (gs2.length : Int) = m ∧ (∀ r ∈ gs2, Row m r) ∧ sIf (qOr (qV (e2 opEq (eB 2) (eK (.int 1)))) (qV (e2 opEq (eB 2) (eK (.int 2))))) (sSet (gN 5) (eL (cmp (iR1 (eV 1)) [4] (gN 4) qY (e2 opAdd (eL (cmp (iR1 (eV 1)) [7] (gN 7) qY (eC bInt (aC (e2 opEq (eB 7) (eB 4)) aN)))) (eL (aC (e2 opIx (eB 6) (eV 4)) aN)))))) sNil
      [.sh (.int c), .sh (.int m), .sh (.int (draw c 3 % 4)), .sh (.list as1), .no, .sh (.list gs1), .sh (intL st), .no, .no, .no] = .next [.sh (.int c), .sh (.int m), .sh (.int (draw c 3 % 4)), .sh (.list as1), .no, .sh (.list gs2), .sh (intL st), .no, .no, .no] := by
    by_cases q : draw c 3 % 4 = 1 ∨ draw c 3 % 4 = 2
    · obtain ⟨gs2, c1, c2, c3⟩ := cmp_all (it := iR1 (eV 1)) (vs := [4]) (g := gN 4) (t := qY) (f := e2 opAdd (eL (cmp (iR1 (eV 1)) [7] (gN 7) qY (eC bInt (aC (e2 opEq (eB 7) (eB 4)) aN)))) (eL (aC (e2 opIx (eB 6) (eV 4)) aN)))
        (e := [.sh (.int c), .sh (.int m), .sh (.int (draw c 3 % 4)), .sh (.list as1), .no, .sh (.list gs1), .sh (intL st), .no, .no, .no]) (Row m) (ir1 rfl (by omega) (by omega)) (by rw [rng_length]; unfold szL; omega) fun x hx => by
          obtain ⟨j, rfl, j1, j2⟩ := rng_mem hx
          obtain ⟨zs, d1, d2, d3⟩ := cmp_ints (it := iR1 (eV 1)) (vs := [7]) (g := gN 7) (t := qY) (f := eC bInt (aC (e2 opEq (eB 7) (eB 4)) aN)) (e := [.sh (.int c), .sh (.int m), .sh (.int (draw c 3 % 4)), .sh (.list as1), .sh (.int j), .sh (.list gs1), .sh (intL st), .no, .no, .no]) near
            (ir1 rfl (by omega) (by omega)) (by rw [rng_length]; omega) fun x hx => by
              obtain ⟨i, rfl, _, _⟩ := rng_mem hx
              refine ⟨_, _, rfl, rfl, cl1 (op2 rfl rfl (eq_int _ _)) rfl, ?_⟩
              by_cases ij : i = j <;> simp [ij, near]
          obtain ⟨z, _, hz, f1⟩ := ix_ints (xs := st) (k := j) j1 (by omega)
          refine ⟨_, intL (zs ++ [z]), rfl, rfl, op2 (el d1) (el (ac (op2 rfl rfl f1) rfl)) ((add_list ?_).trans ?_), row_of ?_ fun y hy => ?_⟩
          · rw [List.length_map, d2, rng_length]; simp; omega
          · show R.ok (PyData.list (zs.map .int ++ [.int z])) = .ok (.list ((zs ++ [z]).map .int))
            rw [List.map_append]; rfl
          · rw [List.length_append, d2, rng_length]; simp; omega
          · rcases List.mem_append.mp hy with h | h
            · exact d3 y h
            · rw [List.mem_singleton.mp h]; have := s3 z hz; unfold near; omega
      refine ⟨gs2, by rw [c2, rng_length]; omega, c3, (if_t ((qor (qv (op2 rfl rfl (eq_int _ _))) fun _ => qv (op2 rfl rfl (eq_int _ _))).trans ?_)).trans (set_ok (el c1))⟩
      rcases q with q | q <;> simp [q]
    · refine ⟨gs1, b2', b3, (if_f ((qor (qv (op2 rfl rfl (eq_int _ _))) fun _ => qv (op2 rfl rfl (eq_int _ _))).trans ?_)).trans rfl⟩
      rw [decide_eq_false fun h => q (.inl h), decide_eq_false fun h => q (.inr h)]; rfl
  obtain ⟨gs2, g2a, g2b, g2c⟩ := g2
  -- mode 2
  have g3 : ∃ as2 : List D, as2.length ≤ 4 ∧ (∀ r ∈ as2, Row m r) ∧ sIf (qV (e2 opEq (eB 2) (eK (.int 2)))) (sSet (gN 3) (e2 opAdd (eB 3) (eL (aC (e2 opAdd (eL (cmp (iL (eB 6)) [8] (gN 8) qY (e2 opSub (eK (.int 0)) (eB 8)))) (eL (aC (e2 opMod (eC m_law_drawn (aC (eV 0) (aC (eK (.int 110)) aN))) (eK (.int 9))) aN))) aN)))) sNil
      [.sh (.int c), .sh (.int m), .sh (.int (draw c 3 % 4)), .sh (.list as1), .no, .sh (.list gs2), .sh (intL st), .no, .no, .no] = .next [.sh (.int c), .sh (.int m), .sh (.int (draw c 3 % 4)), .sh (.list as2), .no, .sh (.list gs2), .sh (intL st), .no, .no, .no] := by
    by_cases q : draw c 3 % 4 = 2
    · obtain ⟨zs, d1, d2, d3⟩ := cmp_ints (it := iL (eB 6)) (vs := [8]) (g := gN 8) (t := qY) (f := e2 opSub (eK (.int 0)) (eB 8)) (e := [.sh (.int c), .sh (.int m), .sh (.int (draw c 3 % 4)), .sh (.list as1), .no, .sh (.list gs2), .sh (intL st), .no, .no, .no]) near
        (il rfl) (by rw [List.length_map]; omega) fun x hx => by
          obtain ⟨i, hi, rfl⟩ := List.mem_map.mp hx
          refine ⟨_, _, rfl, rfl, op2 rfl rfl rfl, ?_⟩
          have := s3 i hi
          unfold near; omega
      rw [List.length_map] at d2
      refine ⟨as1 ++ [intL (zs ++ [draw c 110 % 9])], by rw [List.length_append]; simp; omega, fun r hr => ?_, (if_t ((qv (op2 rfl rfl (eq_int _ _))).trans ?_)).trans (set_ok (op2 rfl (el (ac (op2 (el d1) (el (ac (op2 (hd _ _ _ rfl rfl) rfl (mod_ok (by decide))) rfl)) ((add_list ?_).trans ?_)) rfl)) (add_list ?_)))⟩
      · rcases List.mem_append.mp hr with h | h
        · exact a3 r h
        · rw [List.mem_singleton.mp h]
          refine row_of ?_ fun y hy => ?_
          · rw [List.length_append, d2]; simp; omega
          · rcases List.mem_append.mp hy with h | h
            · exact d3 y h
            · rw [List.mem_singleton.mp h]; unfold near; omega
      · rw [decide_eq_true q]
      · rw [List.length_map, d2]; simp; omega
      · show R.ok (PyData.list (zs.map .int ++ [.int (draw c 110 % 9)])) = .ok (.list ((zs ++ [draw c 110 % 9]).map .int))
        rw [List.map_append]; rfl
      · simp; omega
    · refine ⟨as1, by omega, a3, (if_f ((qv (op2 rfl rfl (eq_int _ _))).trans ?_)).trans rfl⟩
      rw [decide_eq_false q]
  obtain ⟨as2, g3a, g3b, g3c⟩ := g3
  -- mode 3
  have g4 : ∃ gs3 : List D, (gs3.length : Int) = m ∧ (∀ r ∈ gs3, Row m r) ∧ sIf (qV (e2 opEq (eB 2) (eK (.int 3)))) (sSet (gN 5) (eL (cmp (iL (eB 5)) [9] (gN 9) qY (e2 opAdd (e2 opMul (eL (aC (eK (.int 0)) aN)) (eB 1)) (eSl (eB 9) (oS (eV 1)) oN))))) sNil
      [.sh (.int c), .sh (.int m), .sh (.int (draw c 3 % 4)), .sh (.list as2), .no, .sh (.list gs2), .sh (intL st), .no, .no, .no] = .next [.sh (.int c), .sh (.int m), .sh (.int (draw c 3 % 4)), .sh (.list as2), .no, .sh (.list gs3), .sh (intL st), .no, .no, .no] := by
    by_cases q : draw c 3 % 4 = 3
    · obtain ⟨gs3, c1, c2, c3⟩ := cmp_all (it := iL (eB 5)) (vs := [9]) (g := gN 9) (t := qY) (f := e2 opAdd (e2 opMul (eL (aC (eK (.int 0)) aN)) (eB 1)) (eSl (eB 9) (oS (eV 1)) oN))
        (e := [.sh (.int c), .sh (.int m), .sh (.int (draw c 3 % 4)), .sh (.list as2), .no, .sh (.list gs2), .sh (intL st), .no, .no, .no]) (Row m) (il rfl) (by unfold szL; omega) fun x hx => by
          obtain ⟨xs, rfl, l1, l2⟩ := g2b x hx
          refine ⟨_, intL (List.replicate m.toNat 0 ++ xs.drop m.toNat), rfl, rfl, op2 (op2 (el rfl) rfl (mul_list (by omega) (by omega))) (esl_from (xs := xs.map .int) rfl rfl (by omega)) ((add_list ?_).trans ?_), row_of ?_ fun y hy => ?_⟩
          · rw [List.length_map, List.length_replicate, List.length_drop, List.length_map]; omega
          · show R.ok (PyData.list ((List.replicate m.toNat (0 : Int)).map .int ++ (xs.map .int).drop m.toNat)) = .ok (.list ((List.replicate m.toNat 0 ++ xs.drop m.toNat).map .int))
            rw [List.map_append, List.map_drop]
          · rw [List.length_append, List.length_replicate, List.length_drop]; omega
          · rcases List.mem_append.mp hy with h | h
            · rw [(List.mem_replicate.mp h).2]; unfold near; omega
            · exact l2 y (List.mem_of_mem_drop h)
      exact ⟨gs3, by rw [c2]; exact g2a, c3, (if_t ((qv (op2 rfl rfl (eq_int _ _))).trans (by rw [decide_eq_true q]))).trans (set_ok (el c1))⟩
    · exact ⟨gs2, g2a, g2b, (if_f ((qv (op2 rfl rfl (eq_int _ _))).trans (by rw [decide_eq_false q]))).trans rfl⟩
  obtain ⟨gs3, g4a, g4b, g4c⟩ := g4
  refine ⟨.tuple [.list as2, .list gs3], fn_ret ?_, as2, gs3, rfl, g3a, g4a, g3b, g4b⟩
  refine (seq_next (set_ok (op2 (hd _ _ _ rfl rfl) rfl (mod_ok (by decide))))).trans ?_
  refine (seq_next (set_ok (el a1))).trans ?_
  refine (seq_next (set_ok (el b1))).trans ?_
  refine (seq_next (set_ok (el s1))).trans ?_
  refine (seq_next g2c).trans ((seq_next g3c).trans ((seq_next g4c).trans (ret_ok (et (ac rfl (ac rfl rfl))))))
end
end PL

namespace PL
open PySem
theorem m_far {m : Int} {d : D} (h : Row m d) (h3 : m ≤ 3) : ∃ d', m_law_far [d] = .ok d' ∧ Row m d' := by
  obtain ⟨xs, rfl, l1, l2⟩ := h
  obtain ⟨zs, d1, d2, d3⟩ := cmp_ints (it := iL (eB 0)) (vs := [1]) (g := gN 1) (t := qY) (f := eC bMax2 (aC (e1 opNeg (eK (.int 1000))) (aC (eC bMin2 (aC (eK (.int 1000)) (aC (e2 opMul (eK (.int 250)) (eB 1)) aN))) aN))) (e := [.sh (intL xs), .no]) near
    (il rfl) (by rw [List.length_map]; omega) fun x hx => by
      obtain ⟨i, hi, rfl⟩ := List.mem_map.mp hx
      refine ⟨_, _, rfl, rfl, cl2 (op1 (o := opNeg) (x := .int 1000) rfl rfl) (cl2 rfl (op2 rfl rfl (mul_l (by decide) (by decide))) rfl) rfl, ?_⟩
      unfold near
      split <;> split <;> omega
  rw [List.length_map] at d2
  exact ⟨intL zs, fn_ret (ret_ok (el d1)), row_of (by rw [d2]; exact l1) d3⟩
theorem m_fars {m : Int} {e : Env} {f : EF} {i : Nat} {rs : List D} (h : ∀ r ∈ rs, Row m r) (h3 : m ≤ 3) (hl : rs.length ≤ 1000) (hf : f e = .ok (.list rs)) (hi : ∀ x, eV i ((wip [i] e).set i (.sh x)) = .ok x) : ∃ rs', cmp (iL f) [i] (gN i) qY (eC m_law_far (aC (eV i) aN)) e = .ok rs' ∧ rs'.length = rs.length ∧ ∀ r ∈ rs', Row m r :=
  cmp_all (Row m) (il hf) (Nat.le_trans hl (by decide)) fun x hx => by
    obtain ⟨d, q1, q2⟩ := m_far (h x hx) h3
    exact ⟨_, d, rfl, rfl, cl1 (hi x) q1, q2⟩
theorem many_of {i : Int} (h1 : 0 ≤ i) (h2 : i < 8) : ∃ z : Int, opIx (intL [1, 2, 3, 1, 2, 2, 1, 3]) (.int i) = .ok (.int z) ∧ 1 ≤ z ∧ z ≤ 3 := by
  obtain ⟨z, _, hz, h⟩ := ix_ints (xs := [1, 2, 3, 1, 2, 2, 1, 3]) h1 h2
  have : ∀ z ∈ ([1, 2, 3, 1, 2, 2, 1, 3] : List Int), 1 ≤ z ∧ z ≤ 3 := by decide
  exact ⟨z, h, this z hz⟩
theorem size_of {i : Int} (h1 : 0 ≤ i) (h2 : i < 7) : ∃ z : Int, opIx (intL [1, 2, 1, 1, 2, 1, 3]) (.int i) = .ok (.int z) ∧ 1 ≤ z ∧ z ≤ 3 := by
  obtain ⟨z, _, hz, h⟩ := ix_ints (xs := [1, 2, 1, 1, 2, 1, 3]) h1 h2
  have : ∀ z ∈ ([1, 2, 1, 1, 2, 1, 3] : List Int), 1 ≤ z ∧ z ≤ 3 := by decide
  exact ⟨z, h, this z hz⟩
theorem m_loop_by {ns : List Int} {at_ : Int} (h0 : 0 ≤ at_) : ∃ m ws, m_law_loop_by [scri ns, .int at_] = .ok (lp m ws) ∧ Loop m ws := by
  obtain ⟨m, mq, m1, m3⟩ := many_of (i := cell ns at_ % 8) (by omega) (by omega)
  obtain ⟨k, kq, k1, k3⟩ := size_of (i := cell ns at_ / 8 % 7) (by omega) (by omega)
  obtain ⟨ws, a1, a2, a3⟩ := cmp_all (it := iR1 (eV 4)) (vs := [6]) (g := gN 6) (t := qY) (f := eC m_law_way_by (aC (eC m_law_cell_at (aC (eV 0) (aC (e2 opAdd (e2 opAdd (eB 1) (eK (.int 1))) (eB 6)) aN))) (aC (eV 3) aN)))
    (e := [.sh (scri ns), .sh (.int at_), .sh (.int (cell ns at_)), .sh (.int m), .sh (.int k), .no, .no, .no, .no, .no, .no]) (Way m) (ir1 rfl (by omega) (by omega)) (by rw [rng_length]; unfold szL; omega) fun x hx => by
      obtain ⟨j, rfl, j1, _⟩ := rng_mem hx
      obtain ⟨d, q1, q2⟩ := m_way_by (c := cell ns (at_ + 1 + j)) m1 m3
      exact ⟨_, d, rfl, rfl, cl2 (cl2 rfl (op2 (op2 rfl rfl rfl) rfl rfl) (m_cell (by omega))) rfl q1, q2⟩
  rw [rng_length] at a2
  have g5 : ∃ ws2 v7 v8 v9 : _, ws2.length = ws.length ∧ (∀ w ∈ ws2, Way m w) ∧ sIf (qV (e2 opEq (e2 opMod (e2 opDiv (eB 2) (eK (.int 56))) (eK (.int 8))) (eK (.int 5)))) (sSeq (sOwn 7 aN)
  (sSeq (sFor (iL (eV 5)) (gT [(gN 8), (gN 9)]) (sApp 7 (eT (aC (eL (cmp (iL (eB 8)) [10] (gN 10) qY (eC m_law_far (aC (eV 10) aN)))) (aC (eL (cmp (iL (eB 9)) [10] (gN 10) qY (eC m_law_far (aC (eV 10) aN)))) aN)))))
  (sFrz 7 (sSet (gN 5) (eV 7))))) sNil [.sh (scri ns), .sh (.int at_), .sh (.int (cell ns at_)), .sh (.int m), .sh (.int k), .sh (.list ws), .no, .no, .no, .no, .no] = .next [.sh (scri ns), .sh (.int at_), .sh (.int (cell ns at_)), .sh (.int m), .sh (.int k), .sh (.list ws2), .no, v7, v8, v9, .no] := by
    by_cases q : cell ns at_ / 56 % 8 = 5
    · obtain ⟨e', l1, acc, v8, v9, l2, l3, l4⟩ := fLoop_inv (g := gT [(gN 8), (gN 9)]) (b := sApp 7 (eT (aC (eL (cmp (iL (eB 8)) [10] (gN 10) qY (eC m_law_far (aC (eV 10) aN)))) (aC (eL (cmp (iL (eB 9)) [10] (gN 10) qY (eC m_law_far (aC (eV 10) aN)))) aN))))
        (fun i e => ∃ (acc : List D) (v8 v9 : SV), acc.length = i ∧ (∀ w ∈ acc, Way m w) ∧ e = [.sh (scri ns), .sh (.int at_), .sh (.int (cell ns at_)), .sh (.int m), .sh (.int k), .sh (.list ws), .no, .ow acc, v8, v9, .no])
        (xs := ws) (e := [.sh (scri ns), .sh (.int at_), .sh (.int (cell ns at_)), .sh (.int m), .sh (.int k), .sh (.list ws), .no, .ow [], .no, .no, .no]) ⟨[], .no, .no, rfl, (fun _ h => by cases h), rfl⟩ fun i hi e ⟨acc, v8, v9, h1, h2, h3⟩ => by
          subst h3
          obtain ⟨asks, gives, ew, w1, w2, w3, w4⟩ := a3 _ (List.getElem_mem hi)
          obtain ⟨as', f1, f2, f3⟩ := m_fars (i := 10) (f := eB 8) (e := [.sh (scri ns), .sh (.int at_), .sh (.int (cell ns at_)), .sh (.int m), .sh (.int k), .sh (.list ws), .no, .ow acc, .sh (.list asks), .sh (.list gives), .no]) w3 m3 (by omega) rfl fun _ => rfl
          obtain ⟨gs', f4, f5, f6⟩ := m_fars (i := 10) (f := eB 9) (e := [.sh (scri ns), .sh (.int at_), .sh (.int (cell ns at_)), .sh (.int m), .sh (.int k), .sh (.list ws), .no, .ow acc, .sh (.list asks), .sh (.list gives), .no]) w4 m3 (by omega) rfl fun _ => rfl
          refine ⟨[.sh (scri ns), .sh (.int at_), .sh (.int (cell ns at_)), .sh (.int m), .sh (.int k), .sh (.list ws), .no, .ow acc, .sh (.list asks), .sh (.list gives), .no], _, by rw [ew]; rfl, ?_, acc ++ [.tuple [.list as', .list gs']], .sh (.list asks), .sh (.list gives), by rw [List.length_append, h1]; rfl, fun w hw => ?_, rfl⟩
          · show (eT (aC (eL (cmp (iL (eB 8)) [10] (gN 10) qY (eC m_law_far (aC (eV 10) aN)))) (aC (eL (cmp (iL (eB 9)) [10] (gN 10) qY (eC m_law_far (aC (eV 10) aN)))) aN)) _).out _ = _
            rw [et (ac (el f1) (ac (el f4) rfl))]
            show (if acc.length < szL then _ else _) = _
            rw [if_pos (by unfold szL; omega)]
            rfl
          · rcases List.mem_append.mp hw with h | h
            · exact h2 w h
            · rw [List.mem_singleton.mp h]
              exact ⟨as', gs', rfl, by omega, by omega, f3, f6⟩
      refine ⟨acc, .sh (.list acc), v8, v9, l2, l3, (if_t ((qv (op2 (op2 (op2 rfl rfl (div_ok (by decide) (by decide))) rfl (mod_ok (by decide))) rfl (eq_int _ _))).trans (by rw [decide_eq_true q]))).trans ?_⟩
      refine (seq_next rfl).trans ((seq_next (e' := e') ?_).trans ?_)
      · show (iL (eV 5) _).out _ = _
        rw [il (xs := ws) rfl]
        exact l1
      · rw [l4]; rfl
    · exact ⟨ws, .no, .no, .no, rfl, a3, (if_f ((qv (op2 (op2 (op2 rfl rfl (div_ok (by decide) (by decide))) rfl (mod_ok (by decide))) rfl (eq_int _ _))).trans (by rw [decide_eq_false q]))).trans rfl⟩
  obtain ⟨ws2, v7, v8, v9, b1, b2, b3⟩ := g5
  refine ⟨m, ws2, fn_ret ?_, m1, m3, by omega, by omega, b2⟩
  refine (seq_next (set_ok (cl2 rfl rfl (m_cell h0)))).trans ?_
  refine (seq_next (set_ok (op2 (el rfl) (op2 rfl rfl (mod_ok (by decide))) mq))).trans ?_
  refine (seq_next (set_ok (op2 (el rfl) (op2 (op2 rfl rfl (div_ok (by decide) (by decide))) rfl (mod_ok (by decide))) kq))).trans ?_
  refine (seq_next (set_ok (el a1))).trans ((seq_next b3).trans (ret_ok (et (ac rfl (ac rfl rfl)))))
end PL

namespace PL
open PySem
/-! ### copies -/
def cpy : Nat → D → Prop
  | 0, _ => False
  | n + 1, d => match d with
    | .list xs => xs.length ≤ szL ∧ ∀ x ∈ xs, cpy n x
    | .tuple xs => xs.length ≤ szL ∧ ∀ x ∈ xs, cpy n x
    | .dict (_ :: _) => False
    | _ => True
theorem m_copied : ∀ {n : Nat} {d : D}, cpy n d → m_law_copied n [d] = .ok d
  | 0, _, h => h.elim
  | n + 1, d, h => by
    show fnR 2 (b_law_copied (m_law_copied n)) [d] = _
    have hs : isScr d = false := by
      cases d with
      | dict kvs => cases kvs with | nil => rfl | cons => exact (show False from h).elim
      | _ => rfl
    have h1 : bIsi .list [d] = .ok (.bool (isTy .list d)) := by
      show (if isScr d = true then R.stk else _) = _
      rw [hs]; rfl
    have h2 : bIsi .tuple [d] = .ok (.bool (isTy .tuple d)) := by
      show (if isScr d = true then R.stk else _) = _
      rw [hs]; rfl
    have comp : ∀ (xs : List D) (it : LF) (e : Env), xs.length ≤ szL → (∀ x ∈ xs, cpy n x) → it e = .ok xs → (∀ x, eV 1 ((wip [1] e).set 1 (.sh x)) = .ok x) → cmp it [1] (gN 1) qY (eC (m_law_copied n) (aC (eV 1) aN)) e = .ok xs := fun xs it e hl hx hf he => by
      have := cmp_map (it := it) (vs := [1]) (g := gN 1) (t := qY) (f := eC (m_law_copied n) (aC (eV 1) aN)) (e := e) (fun d => d) hf hl fun x hx' => ⟨_, rfl, rfl, cl1 (he x) (m_copied (hx x hx'))⟩
      rw [this, List.map_id']
    cases d with
    | list xs => exact fn_ret (seq_ret ((if_t (qv (cl1 rfl h1))).trans (ret_ok (el (comp xs _ _ h.1 h.2 rfl fun _ => rfl)))))
    | tuple xs => exact fn_ret ((seq_next ((if_f (qv (cl1 rfl h1))).trans rfl)).trans (seq_ret ((if_t (qv (cl1 rfl h2))).trans (ret_ok (cl1 (el (comp xs (iT (eV 0)) _ h.1 h.2 rfl fun _ => rfl)) rfl)))))
    | _ => exact fn_ret ((seq_next ((if_f (qv (cl1 rfl h1))).trans rfl)).trans ((seq_next ((if_f (qv (cl1 rfl h2))).trans rfl)).trans (ret_ok rfl)))
mutual
theorem same_refl : ∀ (n : Nat) (d : D), cpy n d → same d d = true
  | 0, _, h => h.elim
  | n + 1, .list xs, h => by unfold same; exact sameAll_refl n xs h.2
  | n + 1, .tuple xs, h => by unfold same; exact sameAll_refl n xs h.2
  | n + 1, .dict [], _ => by unfold same; rfl
  | n + 1, .dict (_ :: _), h => h.elim
  | n + 1, .none, _ => by unfold same; rfl
  | n + 1, .bool b, _ => by unfold same; simp
  | n + 1, .int b, _ => by unfold same; simp
  | n + 1, .str b, _ => by unfold same; simp
theorem sameAll_refl : ∀ (n : Nat) (xs : List D), (∀ x ∈ xs, cpy n x) → sameAll xs xs = true
  | _, [], _ => by unfold sameAll; rfl
  | n, x :: xs, h => by
    unfold sameAll
    rw [same_refl n x (h x List.mem_cons_self), sameAll_refl n xs fun y hy => h y (List.mem_cons_of_mem _ hy)]; rfl
end
mutual
theorem low_of : ∀ (n k : Nat) (d : D), cpy n d → n ≤ k → lowD k d = true
  | 0, _, _, h, _ => h.elim
  | n + 1, k + 1, .list xs, h, hk => by unfold lowD; exact lowAll_of n k xs h.2 (Nat.le_of_succ_le_succ hk)
  | n + 1, k + 1, .tuple xs, h, hk => by unfold lowD; exact lowAll_of n k xs h.2 (Nat.le_of_succ_le_succ hk)
  | n + 1, k + 1, .dict [], _, _ => by unfold lowD; rfl
  | n + 1, _, .dict (_ :: _), h, _ => h.elim
  | n + 1, k + 1, .none, _, _ => by unfold lowD; rfl
  | n + 1, k + 1, .bool b, _, _ => by unfold lowD; rfl
  | n + 1, k + 1, .int b, _, _ => by unfold lowD; rfl
  | n + 1, k + 1, .str b, _, _ => by unfold lowD; rfl
theorem lowAll_of : ∀ (n k : Nat) (xs : List D), (∀ x ∈ xs, cpy n x) → n ≤ k → lowAll k xs = true
  | _, _, [], _, _ => by unfold lowAll; rfl
  | n, k, x :: xs, h, hk => by
    unfold lowAll
    rw [low_of n k x (h x List.mem_cons_self) hk, lowAll_of n k xs (fun y hy => h y (List.mem_cons_of_mem _ hy)) hk]; rfl
end
theorem eqD_refl {n : Nat} {d : D} (h : cpy n d) (hn : n ≤ 20) (hd : isDic d = false) : eqD d d = .ok true := by
  unfold eqD
  rw [same_refl n d h, low_of n 20 d h hn, hd]; rfl
theorem ne_refl {n : Nat} {d : D} (h : cpy n d) (hn : n ≤ 20) (hd : isDic d = false) : opNe d d = .ok (.bool false) := by
  unfold opNe; rw [eqD_refl h hn hd]; rfl
theorem cpy_ints {xs : List Int} {n : Nat} (h : xs.length ≤ 1000) : cpy (n + 2) (intL xs) := ⟨by rw [List.length_map]; exact Nat.le_trans h (by decide), fun x hx => by obtain ⟨y, _, rfl⟩ := List.mem_map.mp hx; trivial⟩
theorem cpy_row {m : Int} {d : D} {n : Nat} (h : Row m d) (h3 : m ≤ 3) : cpy (n + 2) d := by
  obtain ⟨xs, rfl, l1, l2⟩ := h
  exact cpy_ints (by omega)
theorem cpy_way {m : Int} {d : D} {n : Nat} (h : Way m d) (h3 : m ≤ 3) : cpy (n + 4) d := by
  obtain ⟨asks, gives, rfl, h1, h2, h4, h5⟩ := h
  refine ⟨(by decide : 2 ≤ 16777216), fun x hx => ?_⟩
  rcases List.mem_cons.mp hx with rfl | hx
  · exact ⟨by unfold szL; omega, fun r hr => cpy_row (h4 r hr) h3⟩
  · rw [List.mem_singleton.mp hx]
    exact ⟨by unfold szL; omega, fun r hr => cpy_row (h5 r hr) h3⟩
theorem cpy_loop {m : Int} {ws : List D} {n : Nat} (h : Loop m ws) : cpy (n + 6) (lp m ws) := by
  refine ⟨(by decide : 2 ≤ 16777216), fun x hx => ?_⟩
  rcases List.mem_cons.mp hx with rfl | hx
  · trivial
  · rw [List.mem_singleton.mp hx]
    exact ⟨by have := h.2.2.2.1; unfold szL; omega, fun r hr => cpy_way (h.2.2.2.2 r hr) h.2.1⟩
end PL

namespace PL
open PySem
/-- what is none of the five -/
def Odd (d : D) : Prop := noScr d ∧ isScr d = false ∧ isWh d = false
def BadS (m : Int) (d : D) : Prop := noScr d ∧ arW m d = false
theorem odd_of {i : Int} (h1 : 0 ≤ i) (h2 : i < 6) : ∃ o, opIx (.list [.none, .bool true, .str "0", .list [.int 0], .tuple [.int 0], .bool false]) (.int i) = .ok o ∧ Odd o := by
  obtain ⟨o, _, ho, h⟩ := ix_list (xs := [.none, .bool true, .str "0", .list [.int 0], .tuple [.int 0], .bool false]) h1 h2
  refine ⟨o, h, ?_⟩
  simp only [List.mem_cons, List.not_mem_nil, or_false] at ho
  rcases ho with rfl | rfl | rfl | rfl | rfl | rfl
  · exact ⟨trivial, rfl, rfl⟩
  · exact ⟨trivial, rfl, rfl⟩
  · exact ⟨trivial, rfl, rfl⟩
  · exact ⟨⟨by decide, by intro x hx; simp at hx; subst hx; rfl⟩, rfl, rfl⟩
  · exact ⟨trivial, rfl, rfl⟩
  · exact ⟨trivial, rfl, rfl⟩
theorem arW_len {n : Int} {xs : List D} (h : (xs.length : Int) ≠ n) : arW n (.list xs) = false := by
  show (decide ((xs.length : Int) = n) && _) = false
  rw [decide_eq_false h]; rfl
theorem arW_odd {n : Int} {xs : List D} {o : D} (h : o ∈ xs) (ho : Odd o) : arW n (.list xs) = false := by
  show (_ && xs.all isWh) = false
  have : xs.all isWh = false := by
    rw [List.all_eq_false]
    exact ⟨o, h, by rw [ho.2.2]; decide⟩
  rw [this, Bool.and_false]
theorem noScr_mem {xs : List D} (h : xs.length ≤ 1000) (h2 : ∀ x ∈ xs, isScr x = false) : noScr (.list xs) := ⟨Nat.le_trans h (by decide), h2⟩
theorem scr_ints {xs : List Int} : ∀ x ∈ xs.map PyData.int, isScr x = false := fun x hx => by obtain ⟨y, _, rfl⟩ := List.mem_map.mp hx; rfl
theorem esl_to {f g : EF} {e : Env} {xs : List D} {m : Int} (h : f e = .ok (.list xs)) (h2 : g e = .ok (.int m)) (h1 : 0 ≤ m) : eSl f oN (oS g) e = .ok (.list (xs.take m.toNat)) := by
  unfold eSl oS oN
  rw [h, R.bind_ok, R.bind_ok, h2]
  show R.ok (PyData.list ((xs.drop (sIx xs.length 0 none)).take (sIx xs.length xs.length (some m) - sIx xs.length 0 none))) = _
  have e : sIx xs.length xs.length (some m) = min m.toNat xs.length := by
    show (if m < 0 then (m + (xs.length : Int)).toNat else min m.toNat xs.length) = _
    rw [if_neg (by omega)]
  have e2 : sIx xs.length 0 none = 0 := rfl
  rw [e, e2, Nat.sub_zero, List.drop_zero]
  congr 2
  rcases Nat.le_total m.toNat xs.length with h | h
  · rw [Nat.min_eq_left h]
  · rw [Nat.min_eq_right h, List.take_length, List.take_of_length_le h]
theorem eq_str {a b : Str} (h : eqD (.str a) (.str b) = .ok true) : opEq (.str a) (.str b) = .ok (.bool true) ∧ opNe (.str a) (.str b) = .ok (.bool false) := by
  unfold opEq opNe; rw [h]; exact ⟨rfl, rfl⟩
theorem eq_self (a : Str) : eqD (.str a) (.str a) = .ok true := eqD_refl (n := 1) trivial (by decide) rfl
end PL

namespace PL
open PySem
/-! ### what is a loop: both sides' looks -/
theorem scr_cpy {n : Nat} {d : D} (h : cpy n d) : isScr d = false := by
  cases n with
  | zero => exact h.elim
  | succ n => cases d with
    | dict kvs => cases kvs with | nil => rfl | cons => exact (show False from h).elim
    | _ => rfl
theorem noScr_cpy {n : Nat} {d : D} (h : cpy (n + 1) d) : noScr d := by
  cases d with
  | dict kvs => cases kvs with | nil => exact trivial | cons => exact (show False from h).elim
  | list xs =>
    refine ⟨h.1, fun x hx => ?_⟩
    have := h.2 x hx
    exact scr_cpy this
  | _ => exact trivial
def nearB : D → Bool | .int z => decide (0 - 1000 ≤ z) && decide (z ≤ 1000) | _ => false
def rowB (m : Int) (d : D) : Bool := arW (m + 1) d && (match d with | .list xs => xs.all nearB | _ => false)
def rowsB (m : Int) : D → Bool | .list rs => rs.all (rowB m) | _ => false
def lenB (p : Int → Bool) : D → Bool | .list xs => p xs.length | _ => false
def wayB (m : Int) : D → Bool | .tuple [a, b] => rowsB m a && rowsB m b && (lenB (fun k => decide (k ≤ 4)) a && lenB (fun k => decide (k = m)) b) | _ => false
def loopB : D → Bool | .tuple [.int m, .list ws] => (decide (1 ≤ m) && decide (m ≤ 3)) && (decide ((1 : Int) ≤ ws.length) && decide ((ws.length : Int) ≤ 3)) && ws.all (wayB m) | _ => false
theorem isi_ok {n : Nat} {d : D} (t : Ty) (h : cpy n d) : bIsi t [d] = .ok (.bool (isTy t d)) := by
  show (if isScr d = true then R.stk else _) = _
  rw [scr_cpy h]; rfl
theorem all_of_whole {xs : List D} (h : xs.all isWh = true) : ∀ x ∈ xs, ∃ z, x = .int z := fun x hx => by
  have := List.all_eq_true.mp h x hx
  cases x <;> first | exact ⟨_, rfl⟩ | cases this
theorem m_row_gen {n : Nat} {m : Int} {d : D} (h : cpy (n + 1) d) : m_is_row [d, .int m] = .ok (.bool (rowB m d)) := by
  cases ha : arW (m + 1) d with
  | false =>
    refine fn_ret (ret_to (eand (j := false) (cl2 rfl (op2 rfl rfl rfl) (m_arew (noScr_cpy h))) fun q => ?_) ?_)
    · rw [ha] at q; cases q
    · unfold rowB; rw [ha]; rfl
  | true =>
    cases d with
    | list xs =>
      have hw : xs.all isWh = true := by
        have : (_ && xs.all isWh) = true := ha
        exact (Bool.and_eq_true _ _ |>.mp this).2
      refine fn_ret (ret_to (eand (cl2 rfl (op2 rfl rfl rfl) (m_arew (noScr_cpy h))) fun _ => cl1 (el (cmp_map (fun x => .bool (nearB x)) (il rfl) h.1 fun x hx => ?_)) (all_bools xs nearB)) rfl)
      obtain ⟨z, rfl⟩ := all_of_whole hw x hx
      exact ⟨_, rfl, rfl, ch2 (op2 rfl rfl rfl) rfl rfl fun _ => ⟨rfl, rfl⟩⟩
    | _ => exact absurd ha Bool.false_ne_true
theorem m_rows_gen {n : Nat} {m : Int} {d : D} (h : cpy (n + 2) d) : m_are_rows [d, .int m] = .ok (.bool (rowsB m d)) := by
  cases d with
  | list rs => exact fn_ret (ret_to (eand (cl1 rfl (isi_ok .list h)) fun _ => cl1 (el (cmp_map (fun x => .bool (rowB m x)) (il rfl) h.1 fun x hx => ⟨_, rfl, rfl, cl2 rfl rfl (m_row_gen (h.2 x hx))⟩)) (all_bools rs (rowB m))) rfl)
  | dict kvs => exact fn_ret (ret_to (eand (j := false) (cl1 rfl (isi_ok .list h)) fun q => Bool.noConfusion (show false = true from q)) rfl)
  | _ => exact fn_ret (ret_to (eand (j := false) (cl1 rfl (isi_ok .list h)) fun q => Bool.noConfusion (show false = true from q)) rfl)
/-- no tuple of two -/
theorem two_or (d : D) : (∃ a b, d = .tuple [a, b]) ∨ (∃ xs, d = .tuple xs ∧ xs.length ≠ 2) ∨ isTy .tuple d = false := by
  cases d with
  | tuple xs =>
    match xs with
    | [a, b] => exact .inl ⟨a, b, rfl⟩
    | [] => exact .inr (.inl ⟨_, rfl, by decide⟩)
    | [_] => exact .inr (.inl ⟨_, rfl, by simp⟩)
    | _ :: _ :: _ :: _ => exact .inr (.inl ⟨_, rfl, by simp⟩)
  | _ => exact .inr (.inr rfl)
theorem wayB_len {m : Int} {xs : List D} (h : xs.length ≠ 2) : wayB m (.tuple xs) = false := by
  match xs with
  | [a, b] => exact absurd rfl h
  | [] => rfl
  | [_] => rfl
  | _ :: _ :: _ :: _ => rfl
theorem loopB_len {xs : List D} (h : xs.length ≠ 2) : loopB (.tuple xs) = false := by
  match xs with
  | [a, b] => exact absurd rfl h
  | [] => rfl
  | [_] => cases ‹D› <;> rfl
  | a :: b :: _ :: _ => cases a <;> first | rfl | (cases b <;> rfl)
theorem wayB_ty {m : Int} {d : D} (h : isTy .tuple d = false) : wayB m d = false := by cases d <;> first | rfl | cases h
theorem loopB_ty {d : D} (h : isTy .tuple d = false) : loopB d = false := by cases d <;> first | rfl | cases h
section
variable {n : Nat} {m : Int} {d : D}
theorem q_tup (rest : TF) (e : Env) (i : Nat) (hi : eB i e = .ok d) (h : cpy n d) (ht : isTy .tuple d = false) : qOr (qNot (qV (eC (bIsi .tuple) (aC (eB i) aN)))) rest e = .ok true :=
  (qor (j := true) (qnot (qv (cl1 hi (isi_ok .tuple h)))) (fun q => by rw [ht] at q; cases q)).trans (by rw [ht]; rfl)
theorem q_len {xs : List D} (rest : TF) (e : Env) (i : Nat) (hi : eB i e = .ok (.tuple xs)) (h : xs.length ≠ 2) : qOr (qNot (qV (eC (bIsi .tuple) (aC (eB i) aN)))) (qOr (qV (e2 opNe (eC bLen (aC (eB i) aN)) (eK (.int 2)))) rest) e = .ok true :=
  (qor (qnot (qv (cl1 hi rfl))) fun _ => qor (j := true) (qv (op2 (cl1 hi rfl) rfl (ne_int _ _))) fun q => by
    exfalso
    have : (xs.length : Int) = 2 := by simpa using q
    omega).trans (by rw [decide_eq_false (show ¬ (xs.length : Int) = 2 by omega)]; rfl)
theorem m_way_gen (h : cpy (n + 3) d) : m_is_way [d, .int m] = .ok (.bool (wayB m d)) := by
  rcases two_or d with ⟨a, b, rfl⟩ | ⟨xs, rfl, hl⟩ | ht
  · have ca : cpy (n + 2) a := h.2 a List.mem_cons_self
    have cb : cpy (n + 2) b := h.2 b (List.mem_cons_of_mem _ List.mem_cons_self)
    refine fn_ret ((seq_next ((if_f ((qor (qnot (qv (cl1 rfl rfl))) fun _ => qv (op2 (cl1 rfl rfl) rfl (ne_int _ _))).trans rfl)).trans rfl)).trans ?_)
    have q : qOr (qNot (qV (eC m_are_rows (aC (e2 opIx (eB 0) (eK (.int 0))) (aC (eV 1) aN))))) (qNot (qV (eC m_are_rows (aC (e2 opIx (eB 0) (eK (.int 1))) (aC (eV 1) aN))))) [.sh (.tuple [a, b]), .sh (.int m)] = .ok (!rowsB m a || !rowsB m b) :=
      qor (qnot (qv (cl2 (op2 rfl rfl rfl) rfl (m_rows_gen ca)))) fun _ => qnot (qv (cl2 (op2 rfl rfl rfl) rfl (m_rows_gen cb)))
    cases ra : rowsB m a with
    | false =>
      refine seq_ret ((if_t (q.trans (by rw [ra]; rfl))).trans (ret_to rfl ?_))
      show _ = PyData.bool (rowsB m a && rowsB m b && _)
      rw [ra]; rfl
    | true =>
      cases rb : rowsB m b with
      | false =>
        refine seq_ret ((if_t (q.trans (by rw [ra, rb]; rfl))).trans (ret_to rfl ?_))
        show _ = PyData.bool (rowsB m a && rowsB m b && _)
        rw [ra, rb]; rfl
      | true =>
        obtain ⟨as, rfl⟩ : ∃ as, a = .list as := by cases a <;> first | exact ⟨_, rfl⟩ | cases ra
        obtain ⟨bs, rfl⟩ : ∃ bs, b = .list bs := by cases b <;> first | exact ⟨_, rfl⟩ | cases rb
        refine (seq_next ((if_f (q.trans (by rw [ra, rb]; rfl))).trans rfl)).trans (ret_to (eand (op2 (cl1 (op2 rfl rfl rfl) rfl) rfl rfl) fun _ => op2 (cl1 (op2 rfl rfl rfl) rfl) rfl (eq_int _ _)) ?_)
        show _ = PyData.bool (rowsB m (.list as) && rowsB m (.list bs) && _)
        rw [ra, rb]; rfl
  · rw [wayB_len hl]
    refine fn_ret (seq_ret ((if_t ?_).trans (ret_ok rfl)))
    exact (qor (qnot (qv (cl1 rfl rfl))) fun _ => qv (op2 (cl1 rfl rfl) rfl (ne_int _ _))).trans (by rw [decide_eq_false (show ¬ (xs.length : Int) = 2 by omega)]; rfl)
  · rw [wayB_ty ht]
    exact fn_ret (seq_ret ((if_t (q_tup (d := d) _ _ 0 rfl h ht)).trans (ret_ok rfl)))
theorem m_loop_gen (h : cpy (n + 5) d) : m_is_loop [d] = .ok (.bool (loopB d)) := by
  rcases two_or d with ⟨a, b, rfl⟩ | ⟨xs, rfl, hl⟩ | ht
  · have ca : cpy (n + 4) a := h.2 a List.mem_cons_self
    have cb : cpy (n + 4) b := h.2 b (List.mem_cons_of_mem _ List.mem_cons_self)
    have q : qOr (qNot (qV (eC (bIsi .tuple) (aC (eB 0) aN)))) (qOr (qV (e2 opNe (eC bLen (aC (eB 0) aN)) (eK (.int 2)))) (qOr (qNot (qV (eC m_is_whole (aC (e2 opIx (eB 0) (eK (.int 0))) aN)))) (qNot (qV (eC (bIsi .list) (aC (e2 opIx (eB 0) (eK (.int 1))) aN)))))) [.sh (.tuple [a, b]), .no] = .ok (!isWh a || !isTy .list b) :=
      (qor (qnot (qv (cl1 rfl rfl))) fun _ => qor (qv (op2 (cl1 rfl rfl) rfl (ne_int _ _))) fun _ => qor (qnot (qv (cl1 (op2 rfl rfl rfl) (m_whole (scr_cpy ca))))) fun _ => qnot (qv (cl1 (op2 rfl rfl rfl) (isi_ok .list cb)))).trans rfl
    cases wa : isWh a with
    | false =>
      refine fn_ret (seq_ret ((if_t (q.trans (by rw [wa]; rfl))).trans (ret_to rfl ?_)))
      cases a <;> first | rfl | cases wa
    | true =>
      obtain ⟨k, rfl⟩ : ∃ k, a = .int k := by cases a <;> first | exact ⟨_, rfl⟩ | cases wa
      cases tb : isTy .list b with
      | false =>
        refine fn_ret (seq_ret ((if_t (q.trans (by rw [wa, tb]; rfl))).trans (ret_to rfl ?_)))
        cases b <;> first | rfl | cases tb
      | true =>
        obtain ⟨ws, rfl⟩ : ∃ ws, b = .list ws := by cases b <;> first | exact ⟨_, rfl⟩ | cases tb
        refine fn_ret ((seq_next ((if_f (q.trans (by rw [wa, tb]; rfl))).trans rfl)).trans ?_)
        have q2 : qOr (qNot (qV (eCh opLe opLe (eK (.int 1)) (e2 opIx (eB 0) (eK (.int 0))) (eK (.int 3))))) (qNot (qV (eCh opLe opLe (eK (.int 1)) (eC bLen (aC (e2 opIx (eB 0) (eK (.int 1))) aN)) (eK (.int 3))))) [.sh (.tuple [.int k, .list ws]), .no] =
            .ok (!(decide ((1 : Int) ≤ k) && decide (k ≤ 3)) || !(decide ((1 : Int) ≤ ws.length) && decide ((ws.length : Int) ≤ 3))) :=
          qor (qnot (qv (ch2 rfl (op2 rfl rfl rfl) rfl fun _ => ⟨rfl, rfl⟩))) fun _ => qnot (qv (ch2 rfl (cl1 (op2 rfl rfl rfl) rfl) rfl fun _ => ⟨rfl, rfl⟩))
        have hB : loopB (.tuple [.int k, .list ws]) = ((decide (1 ≤ k) && decide (k ≤ 3)) && (decide ((1 : Int) ≤ ws.length) && decide ((ws.length : Int) ≤ 3)) && ws.all (wayB k)) := rfl
        cases b1 : (decide ((1 : Int) ≤ k) && decide (k ≤ 3)) with
        | false => exact seq_ret ((if_t (q2.trans (by rw [b1]; rfl))).trans (ret_to rfl (by rw [hB, b1]; rfl)))
        | true =>
          cases b2 : (decide ((1 : Int) ≤ ws.length) && decide ((ws.length : Int) ≤ 3)) with
          | false => exact seq_ret ((if_t (q2.trans (by rw [b1, b2]; rfl))).trans (ret_to rfl (by rw [hB, b1, b2]; rfl)))
          | true =>
            refine (seq_next ((if_f (q2.trans (by rw [b1, b2]; rfl))).trans rfl)).trans (ret_to (cl1 (el (cmp_map (fun x => .bool (wayB k x)) (il (op2 rfl rfl rfl)) cb.1 fun x hx => ⟨_, rfl, rfl, cl2 rfl (op2 rfl rfl rfl) (m_way_gen (cb.2 x hx))⟩)) (all_bools ws (wayB k))) (by rw [hB, b1, b2]; rfl))
  · rw [loopB_len hl]
    exact fn_ret (seq_ret ((if_t (q_len _ _ 0 rfl hl)).trans (ret_ok rfl)))
  · rw [loopB_ty ht]
    exact fn_ret (seq_ret ((if_t (q_tup (d := d) _ _ 0 rfl h ht)).trans (ret_ok rfl)))
end
/-! ### the law's own looks -/
theorem fLoop_allb {g : GF} {b : SF} (p : D → Bool) (I : Env → Prop) : ∀ {xs : List D} {e : Env}, I e → (∀ x ∈ xs, ∀ e, I e → ∃ e1, g x e = .ok e1 ∧ (p x = true → ∃ e2, b e1 = .next e2 ∧ I e2) ∧ (p x = false → b e1 = .ret (.bool false))) →
    (xs.all p = true → ∃ e', fLoop g b xs e = .next e' ∧ I e') ∧ (xs.all p = false → fLoop g b xs e = .ret (.bool false))
  | [], e, h, _ => ⟨fun _ => ⟨e, rfl, h⟩, fun q => by cases q⟩
  | x :: xs, e, h, st => by
    obtain ⟨e1, h1, h2, h3⟩ := st x List.mem_cons_self e h
    rw [List.all_cons]
    cases hp : p x with
    | false =>
      refine ⟨(fun q => by cases q), fun _ => ?_⟩
      unfold fLoop
      rw [h1]
      show (match b e1 with | .next e2 => _ | .cont e2 => _ | .brk e2 => _ | .ret d => _ | .err c => _ | .stk => _) = _
      rw [h3 hp]
    | true =>
      obtain ⟨e2, h4, h5⟩ := h2 hp
      obtain ⟨i1, i2⟩ := fLoop_allb p I (xs := xs) h5 fun y hy => st y (List.mem_cons_of_mem _ hy)
      have ef : fLoop g b (x :: xs) e = fLoop g b xs e2 := by
        conv => lhs; unfold fLoop
        rw [h1]
        show (match b e1 with | .next e2 => fLoop g b xs e2 | .cont e2 => _ | .brk e2 => _ | .ret d => _ | .err c => _ | .stk => _) = _
        rw [h4]
      rw [ef]
      exact ⟨fun q => i1 q, fun q => i2 q⟩
theorem for_ok {it : LF} {g : GF} {b : SF} {e : Env} {xs : List D} {o : Out} (h : it e = .ok xs) (h2 : fLoop g b xs e = o) : sFor it g b e = o := by unfold sFor; rw [h]; exact h2
section
variable {n : Nat} {m : Int} {d : D}
theorem row_eq (xs : List D) : rowB m (.list xs) = (decide ((xs.length : Int) = m + 1) && xs.all nearB) := by
  show ((decide ((xs.length : Int) = m + 1) && xs.all isWh) && xs.all nearB) = _
  rw [Bool.and_assoc]
  congr 1
  have : ∀ l : List D, (l.all isWh && l.all nearB) = l.all nearB := fun l => by
    induction l with
    | nil => rfl
    | cons x l ih =>
      rw [List.all_cons, List.all_cons]
      cases x with
      | int z =>
        show (true && l.all isWh && (nearB (.int z) && l.all nearB)) = _
        rw [Bool.true_and, ← ih]
        cases nearB (.int z) <;> cases l.all isWh <;> rfl
      | _ => rfl
  exact this xs
theorem q_near {x : D} {e : Env} (h : cpy n x) (hi : eB 2 e = .ok x) : qOr (qNot (qV (eC (bIsi .int) (aC (eB 2) aN)))) (qOr (qV (eC (bIsi .bool) (aC (eB 2) aN))) (qNot (qV (eCh opLe opLe (e1 opNeg (eK (.int 1000))) (eB 2) (eK (.int 1000)))))) e = .ok (!nearB x) := by
  cases x with
  | int z => exact (qor (qnot (qv (cl1 hi rfl))) fun _ => qor (qv (cl1 hi rfl)) fun _ => qnot (qv (ch2 (op1 (o := opNeg) (x := .int 1000) rfl rfl) hi rfl fun _ => ⟨rfl, rfl⟩))).trans rfl
  | bool b => exact (qor (qnot (qv (cl1 hi rfl))) fun _ => qor (j := true) (qv (cl1 hi rfl)) fun q => Bool.noConfusion (show true = false from q)).trans rfl
  | dict kvs => exact (qor (j := true) (qnot (qv (cl1 hi (isi_ok .int h)))) fun q => Bool.noConfusion (show true = false from q)).trans rfl
  | _ => exact (qor (j := true) (qnot (k := false) (qv (cl1 hi rfl))) fun q => Bool.noConfusion (show true = false from q)).trans rfl
theorem l_row_gen (h : cpy (n + 1) d) : m_law_is_row [d, .int m] = .ok (.bool (rowB m d)) := by
  cases hl : isTy .list d with
  | false =>
    have e : rowB m d = false := by cases d <;> first | rfl | cases hl
    rw [e]
    refine fn_ret (seq_ret ((if_t ((qor (j := true) (qnot (qv (cl1 rfl (isi_ok .list h)))) fun q => ?_).trans ?_)).trans (ret_ok rfl)))
    · rw [hl] at q; cases q
    · rw [hl]; rfl
  | true =>
    obtain ⟨xs, rfl⟩ : ∃ xs, d = .list xs := by cases d <;> first | exact ⟨_, rfl⟩ | cases hl
    rw [row_eq]
    have q : qOr (qNot (qV (eC (bIsi .list) (aC (eB 0) aN)))) (qV (e2 opNe (eC bLen (aC (eB 0) aN)) (e2 opAdd (eB 1) (eK (.int 1))))) [.sh (.list xs), .sh (.int m), .no] = .ok (!decide ((xs.length : Int) = m + 1)) :=
      (qor (qnot (qv (cl1 rfl rfl))) fun _ => qv (op2 (cl1 rfl rfl) (op2 rfl rfl rfl) (ne_int _ _))).trans rfl
    cases hn : decide ((xs.length : Int) = m + 1) with
    | false => exact fn_ret (seq_ret ((if_t (q.trans (by rw [hn]; rfl))).trans (ret_ok rfl)))
    | true =>
      obtain ⟨i1, i2⟩ := fLoop_allb (g := gN 2) (b := sIf (qOr (qNot (qV (eC (bIsi .int) (aC (eB 2) aN)))) (qOr (qV (eC (bIsi .bool) (aC (eB 2) aN))) (qNot (qV (eCh opLe opLe (e1 opNeg (eK (.int 1000))) (eB 2) (eK (.int 1000))))))) (sRet (eK (.bool false))) sNil) nearB
        (fun e => ∃ v, e = [.sh (.list xs), .sh (.int m), v]) (xs := xs) (e := [.sh (.list xs), .sh (.int m), .no]) ⟨.no, rfl⟩ fun x hx e ⟨v, he⟩ => by
          subst he
          have qq := q_near (e := [.sh (.list xs), .sh (.int m), .sh x]) (h.2 x hx) rfl
          exact ⟨_, rfl, fun hp => ⟨_, (if_f (qq.trans (by rw [hp]; rfl))).trans rfl, .sh x, rfl⟩, fun hp => (if_t (qq.trans (by rw [hp]; rfl))).trans (ret_ok rfl)⟩
      cases hb : xs.all nearB with
      | true =>
        obtain ⟨e', f1, v, f2⟩ := i1 hb
        exact fn_ret ((seq_next ((if_f (q.trans (by rw [hn]; rfl))).trans rfl)).trans ((seq_next (for_ok (il rfl) f1)).trans (ret_ok rfl)))
      | false => exact fn_ret ((seq_next ((if_f (q.trans (by rw [hn]; rfl))).trans rfl)).trans (seq_ret (for_ok (il rfl) (i2 hb))))
def b_way : SF := sSeq (sIf (qOr (qNot (qV (eC (bIsi .tuple) (aC (eB 3) aN)))) (qOr (qV (e2 opNe (eC bLen (aC (eB 3) aN)) (eK (.int 2)))) (qOr (qNot (qV (eC (bIsi .list) (aC (e2 opIx (eB 3) (eK (.int 0))) aN)))) (qNot (qV (eC (bIsi .list) (aC (e2 opIx (eB 3) (eK (.int 1))) aN))))))) (sRet (eK (.bool false))) sNil)
              (sIf (qOr (qV (e2 opGt (eC bLen (aC (e2 opIx (eB 3) (eK (.int 0))) aN)) (eK (.int 4)))) (qOr (qV (e2 opNe (eC bLen (aC (e2 opIx (eB 3) (eK (.int 1))) aN)) (eB 1))) (qNot (qV (eC bAll (aC (eL (cmp (iL (e2 opAdd (e2 opIx (eB 3) (eK (.int 0))) (e2 opIx (eB 3) (eK (.int 1))))) [4] (gN 4) qY (eC m_law_is_row (aC (eV 4) (aC (eV 1) aN))))) aN)))))) (sRet (eK (.bool false))) sNil)
theorem l_way {k : Int} {v0 v2 : SV} {x : D} (k3 : k ≤ 3) (cx : cpy (n + 3) x) : (wayB k x = true → b_way [v0, .sh (.int k), v2, .sh x, .no] = .next [v0, .sh (.int k), v2, .sh x, .no]) ∧ (wayB k x = false → b_way [v0, .sh (.int k), v2, .sh x, .no] = .ret (.bool false)) := by
  unfold b_way
  rcases two_or x with ⟨a, b, rfl⟩ | ⟨xs, rfl, hl⟩ | ht
  · have ca : cpy (n + 2) a := cx.2 a List.mem_cons_self
    have cb : cpy (n + 2) b := cx.2 b (List.mem_cons_of_mem _ List.mem_cons_self)
    have q : qOr (qNot (qV (eC (bIsi .tuple) (aC (eB 3) aN)))) (qOr (qV (e2 opNe (eC bLen (aC (eB 3) aN)) (eK (.int 2)))) (qOr (qNot (qV (eC (bIsi .list) (aC (e2 opIx (eB 3) (eK (.int 0))) aN)))) (qNot (qV (eC (bIsi .list) (aC (e2 opIx (eB 3) (eK (.int 1))) aN)))))) [v0, .sh (.int k), v2, .sh (.tuple [a, b]), .no] = .ok (!isTy .list a || !isTy .list b) :=
      (qor (qnot (qv (cl1 rfl rfl))) fun _ => qor (qv (op2 (cl1 rfl rfl) rfl (ne_int _ _))) fun _ => qor (qnot (qv (cl1 (op2 rfl rfl rfl) (isi_ok .list ca)))) fun _ => qnot (qv (cl1 (op2 rfl rfl rfl) (isi_ok .list cb)))).trans rfl
    have fls : (!isTy .list a || !isTy .list b) = true → wayB k (.tuple [a, b]) = false := fun hq => by
      cases a with
      | list as => cases b with
        | list bs => cases hq
        | _ => show (rowsB k (.list as) && false && _) = false; rw [Bool.and_false]; rfl
      | _ => rfl
    cases hq : (!isTy .list a || !isTy .list b) with
    | true => exact ⟨(fun hp => by rw [fls hq] at hp; cases hp), fun _ => seq_ret ((if_t (q.trans (by rw [hq]))).trans (ret_ok rfl))⟩
    | false =>
      obtain ⟨as, rfl⟩ : ∃ as, a = .list as := by cases a <;> first | exact ⟨_, rfl⟩ | cases hq
      obtain ⟨bs, rfl⟩ : ∃ bs, b = .list bs := by cases b <;> first | exact ⟨_, rfl⟩ | cases hq
      have hc : as.length ≤ 4 → (bs.length : Int) = k → cmp (iL (e2 opAdd (e2 opIx (eB 3) (eK (.int 0))) (e2 opIx (eB 3) (eK (.int 1))))) [4] (gN 4) qY (eC m_law_is_row (aC (eV 4) (aC (eV 1) aN))) [v0, .sh (.int k), v2, .sh (.tuple [.list as, .list bs]), .no] = .ok ((as ++ bs).map fun x => .bool (rowB k x)) := fun h4 hk =>
        cmp_map _ (il (op2 (op2 rfl rfl rfl) (op2 rfl rfl rfl) (add_list (by omega)))) (by rw [List.length_append]; unfold szL; omega) fun x hx => ⟨_, rfl, rfl, cl2 rfl rfl (l_row_gen (n := n) (by
          rcases List.mem_append.mp hx with h | h
          · exact ca.2 x h
          · exact cb.2 x h))⟩
      have q3 : qOr (qV (e2 opGt (eC bLen (aC (e2 opIx (eB 3) (eK (.int 0))) aN)) (eK (.int 4)))) (qOr (qV (e2 opNe (eC bLen (aC (e2 opIx (eB 3) (eK (.int 1))) aN)) (eB 1))) (qNot (qV (eC bAll (aC (eL (cmp (iL (e2 opAdd (e2 opIx (eB 3) (eK (.int 0))) (e2 opIx (eB 3) (eK (.int 1))))) [4] (gN 4) qY (eC m_law_is_row (aC (eV 4) (aC (eV 1) aN))))) aN))))) [v0, .sh (.int k), v2, .sh (.tuple [.list as, .list bs]), .no] = .ok (!wayB k (.tuple [.list as, .list bs])) := by
        refine (qor (k := decide ((4 : Int) < as.length)) (j := !decide ((bs.length : Int) = k) || !(as ++ bs).all (rowB k)) (qv (op2 (cl1 (op2 rfl rfl rfl) rfl) rfl rfl)) fun h4 => qor (qv (op2 (cl1 (op2 rfl rfl rfl) rfl) rfl (ne_int _ _))) fun hk => qnot (qv (cl1 (el (hc (by have := of_decide_eq_false h4; omega) (by simpa using hk))) (all_bools _ (rowB k))))).trans ?_
        · show R.ok _ = R.ok (!(as.all (rowB k) && bs.all (rowB k) && (decide ((as.length : Int) ≤ 4) && decide ((bs.length : Int) = k))))
          have e4 : decide ((4 : Int) < as.length) = !decide ((as.length : Int) ≤ 4) := by
            rw [← decide_not]
            congr 1
            exact propext (by omega)
          rw [List.all_append, e4]
          congr 1
          cases decide ((as.length : Int) ≤ 4) <;> cases decide ((bs.length : Int) = k) <;> cases as.all (rowB k) <;> cases bs.all (rowB k) <;> rfl
      exact ⟨fun hp => (seq_next ((if_f (q.trans (by rw [hq]))).trans rfl)).trans ((if_f (q3.trans (by rw [hp]; rfl))).trans rfl), fun hp => (seq_next ((if_f (q.trans (by rw [hq]))).trans rfl)).trans ((if_t (q3.trans (by rw [hp]; rfl))).trans (ret_ok rfl))⟩
  · rw [wayB_len hl]
    exact ⟨(fun hp => by cases hp), fun _ => seq_ret ((if_t (q_len _ _ 3 rfl hl)).trans (ret_ok rfl))⟩
  · rw [wayB_ty ht]
    exact ⟨(fun hp => by cases hp), fun _ => seq_ret ((if_t (q_tup (d := x) _ _ 3 rfl cx ht)).trans (ret_ok rfl))⟩
set_option maxHeartbeats 4000000 in
theorem l_loop_gen (h : cpy (n + 5) d) : m_law_is_loop [d] = .ok (.bool (loopB d)) := by
  rcases two_or d with ⟨a, b, rfl⟩ | ⟨xs, rfl, hl⟩ | ht
  · have ca : cpy (n + 4) a := h.2 a List.mem_cons_self
    have cb : cpy (n + 4) b := h.2 b (List.mem_cons_of_mem _ List.mem_cons_self)
    have q : qOr (qNot (qV (eC (bIsi .tuple) (aC (eB 0) aN)))) (qOr (qV (e2 opNe (eC bLen (aC (eB 0) aN)) (eK (.int 2)))) (qNot (qV (eC (bIsi .list) (aC (e2 opIx (eB 0) (eK (.int 1))) aN))))) [.sh (.tuple [a, b]), .no, .no, .no, .no] = .ok (!isTy .list b) :=
      (qor (qnot (qv (cl1 rfl rfl))) fun _ => qor (qv (op2 (cl1 rfl rfl) rfl (ne_int _ _))) fun _ => qnot (qv (cl1 (op2 rfl rfl rfl) (isi_ok .list cb)))).trans rfl
    cases tb : isTy .list b with
    | false =>
      refine fn_ret (seq_ret ((if_t (q.trans (by rw [tb]; rfl))).trans (ret_to rfl ?_)))
      cases a <;> first | rfl | (cases b <;> first | rfl | cases tb)
    | true =>
      obtain ⟨ws, rfl⟩ : ∃ ws, b = .list ws := by cases b <;> first | exact ⟨_, rfl⟩ | cases tb
      refine fn_ret ((seq_next ((if_f (q.trans (by rw [tb]; rfl))).trans rfl)).trans ((seq_next (e' := [.sh (.tuple [a, .list ws]), .sh a, .sh (.list ws), .no, .no]) rfl).trans ?_))
      cases wa : isWh a with
      | false =>
        refine seq_ret ((if_t ?_).trans (ret_to rfl (by cases a <;> first | rfl | cases wa)))
        cases a with
        | int k => cases wa
        | bool k => exact (qor (qnot (qv (cl1 rfl rfl))) fun _ => qor (j := true) (qv (cl1 rfl rfl)) fun q => Bool.noConfusion (show true = false from q)).trans rfl
        | dict kvs => exact (qor (j := true) (qnot (qv (cl1 rfl (isi_ok .int ca)))) fun q => Bool.noConfusion (show true = false from q)).trans rfl
        | _ => exact (qor (j := true) (qnot (k := false) (qv (cl1 rfl rfl))) fun q => Bool.noConfusion (show true = false from q)).trans rfl
      | true =>
        obtain ⟨k, rfl⟩ : ∃ k, a = .int k := by cases a <;> first | exact ⟨_, rfl⟩ | cases wa
        have q2 : qOr (qNot (qV (eC (bIsi .int) (aC (eB 1) aN)))) (qOr (qV (eC (bIsi .bool) (aC (eB 1) aN))) (qOr (qNot (qV (eCh opLe opLe (eK (.int 1)) (eB 1) (eK (.int 3))))) (qNot (qV (eCh opLe opLe (eK (.int 1)) (eC bLen (aC (eB 2) aN)) (eK (.int 3))))))) [.sh (.tuple [.int k, .list ws]), .sh (.int k), .sh (.list ws), .no, .no] =
            .ok (!(decide ((1 : Int) ≤ k) && decide (k ≤ 3)) || !(decide ((1 : Int) ≤ ws.length) && decide ((ws.length : Int) ≤ 3))) :=
          (qor (qnot (qv (cl1 rfl rfl))) fun _ => qor (qv (cl1 rfl rfl)) fun _ => qor (qnot (qv (ch2 rfl rfl rfl fun _ => ⟨rfl, rfl⟩))) fun _ => qnot (qv (ch2 rfl (cl1 rfl rfl) rfl fun _ => ⟨rfl, rfl⟩))).trans rfl
        have hB : loopB (.tuple [.int k, .list ws]) = ((decide (1 ≤ k) && decide (k ≤ 3)) && (decide ((1 : Int) ≤ ws.length) && decide ((ws.length : Int) ≤ 3)) && ws.all (wayB k)) := rfl
        cases b1 : (decide ((1 : Int) ≤ k) && decide (k ≤ 3)) with
        | false => exact seq_ret ((if_t (q2.trans (by rw [b1]; rfl))).trans (ret_to rfl (by rw [hB, b1]; rfl)))
        | true =>
          cases b2 : (decide ((1 : Int) ≤ ws.length) && decide ((ws.length : Int) ≤ 3)) with
          | false => exact seq_ret ((if_t (q2.trans (by rw [b1, b2]; rfl))).trans (ret_to rfl (by rw [hB, b1, b2]; rfl)))
          | true =>
            refine (seq_next ((if_f (q2.trans (by rw [b1, b2]; rfl))).trans rfl)).trans ?_
            have k3 : k ≤ 3 := by
              have := (Bool.and_eq_true _ _ |>.mp b1).2
              exact of_decide_eq_true this
            obtain ⟨i1, i2⟩ := fLoop_allb (g := gN 3) (b := b_way) (wayB k)
              (fun e => ∃ v, e = [.sh (.tuple [.int k, .list ws]), .sh (.int k), .sh (.list ws), v, .no]) (xs := ws) (e := [.sh (.tuple [.int k, .list ws]), .sh (.int k), .sh (.list ws), .no, .no]) ⟨.no, rfl⟩ fun x hx e ⟨v, he⟩ => by
                subst he
                have cx : cpy (n + 3) x := cb.2 x hx
                exact ⟨_, rfl, fun hp => ⟨_, (l_way (n := n) k3 cx).1 hp, _, rfl⟩, fun hp => (l_way (n := n) k3 cx).2 hp⟩
            cases hb : ws.all (wayB k) with
            | true =>
              obtain ⟨e', f1, v, f2⟩ := i1 hb
              exact (seq_next (for_ok (il rfl) f1)).trans (ret_to rfl (by rw [hB, b1, b2, hb]; rfl))
            | false => exact (seq_ret (for_ok (il rfl) (i2 hb))).trans (by rw [hB, b1, b2, hb]; rfl)
  · rw [loopB_len hl]
    exact fn_ret (seq_ret ((if_t (q_len _ _ 0 rfl hl)).trans (ret_ok rfl)))
  · rw [loopB_ty ht]
    exact fn_ret (seq_ret ((if_t (q_tup (d := d) _ _ 0 rfl h ht)).trans (ret_ok rfl)))
end
end PL

namespace PL
open PySem
/-! ### what is exchanged -/
theorem cpy_succ : ∀ {n : Nat} {d : D}, cpy n d → cpy (n + 1) d
  | 0, _, h => h.elim
  | n + 1, .list xs, h => ⟨h.1, fun x hx => cpy_succ (h.2 x hx)⟩
  | n + 1, .tuple xs, h => ⟨h.1, fun x hx => cpy_succ (h.2 x hx)⟩
  | n + 1, .dict [], _ => trivial
  | n + 1, .dict (_ :: _), h => h.elim
  | n + 1, .none, _ => trivial
  | n + 1, .bool _, _ => trivial
  | n + 1, .int _, _ => trivial
  | n + 1, .str _, _ => trivial
theorem cpy_le {n k : Nat} {d : D} (h : cpy n d) (hk : n ≤ k) : cpy k d := by
  induction hk with
  | refl => exact h
  | step _ ih => exact cpy_succ ih
theorem cpy_list {n : Nat} {xs : List D} (h : xs.length ≤ 1000) (h2 : ∀ x ∈ xs, cpy n x) : cpy (n + 1) (.list xs) := ⟨Nat.le_trans h (by decide), h2⟩
theorem cpy_tup {n : Nat} {xs : List D} (h : xs.length ≤ 1000) (h2 : ∀ x ∈ xs, cpy n x) : cpy (n + 1) (.tuple xs) := ⟨Nat.le_trans h (by decide), h2⟩
theorem eq_nil {ds : List D} (h : flatAll 19 ds = true) : opEq (.list ds) (.list []) = .ok (.bool ds.isEmpty) ∧ opNe (.list ds) (.list []) = .ok (.bool (!ds.isEmpty)) := by
  cases ds with
  | nil =>
    have e : eqD (.list []) (.list []) = .ok true := rfl
    unfold opEq opNe; rw [e]; exact ⟨rfl, rfl⟩
  | cons d ds =>
    have e : eqD (.list (d :: ds)) (.list []) = .ok false := by
      unfold eqD
      have e1 : same (.list (d :: ds)) (.list []) = false := rfl
      have e2 : flatD 20 (.list (d :: ds)) = true := h
      have e3 : flatD 20 (.list []) = true := rfl
      rw [e1, e2, e3]
      rfl
    unfold opEq opNe; rw [e]; exact ⟨rfl, rfl⟩
theorem flat_ints : ∀ (xs : List Int) (n : Nat), flatAll n (xs.map PyData.int) = true
  | [], _ => rfl
  | x :: xs, n => by show (flatD n (.int x) && flatAll n (xs.map PyData.int)) = true; rw [flat_ints xs n]; unfold flatD; rfl
theorem flat_rows {m : Int} : ∀ {ds : List D}, (∀ d ∈ ds, Row m d) → flatAll 19 ds = true
  | [], _ => rfl
  | d :: ds, h => by
    obtain ⟨xs, rfl, _, _⟩ := h d List.mem_cons_self
    show (flatD 19 (intL xs) && flatAll 19 ds) = true
    rw [flat_rows fun y hy => h y (List.mem_cons_of_mem _ hy), Bool.and_true]
    exact flat_ints xs 18
theorem m_put {xs : List D} {at_ : Int} {t : D} (h : flatAll 19 xs = true) (hl : xs.length ≤ 400) : ∃ ys, m_law_put [.list xs, .int at_, t] = .ok (.list ys) ∧ ys.length ≤ xs.length + 1 ∧ ∀ y ∈ ys, y ∈ xs ∨ y = t := by
  cases he : xs.isEmpty with
  | true => exact ⟨[t], fn_ret (seq_ret ((if_t (qv (op2 rfl (el rfl) ((eq_nil h).1.trans (by rw [he]))))).trans (ret_ok (el (ac rfl rfl))))), by simp, fun y hy => .inr (List.mem_singleton.mp hy)⟩
  | false =>
    have h0 : 0 < (xs.length : Int) := by
      cases xs with
      | nil => cases he
      | cons => simp <;> omega
    have a0 : 0 ≤ at_ % (xs.length : Int) := Int.emod_nonneg _ (by omega)
    have a9 : at_ % (xs.length : Int) < xs.length := Int.emod_lt_of_pos _ h0
    refine ⟨xs.take (at_ % (xs.length : Int)).toNat ++ [t] ++ xs.drop (at_ % (xs.length : Int) + 1).toNat, fn_ret ((seq_next ((if_f (qv (op2 rfl (el rfl) ((eq_nil h).1.trans (by rw [he]))))).trans rfl)).trans (ret_ok (op2 (op2 (esl_to rfl (op2 rfl (cl1 rfl rfl) (mod_ok h0)) a0) (el (ac rfl rfl)) (add_list (by simp; omega))) (esl_from rfl (op2 (op2 rfl (cl1 rfl rfl) (mod_ok h0)) rfl rfl) (by omega)) (add_list (by simp; omega))))), by simp; omega, fun y hy => ?_⟩
    rcases List.mem_append.mp hy with hy | hy
    · rcases List.mem_append.mp hy with hy | hy
      · exact .inl (List.mem_of_mem_take hy)
      · exact .inr (List.mem_singleton.mp hy)
    · exact .inl (List.mem_of_mem_drop hy)
theorem pick {xs : List D} {k : Int} (P : D → Prop) (h1 : 0 ≤ k) (h2 : k < xs.length) (h : ∀ d ∈ xs, P d) : ∃ d, opIx (.list xs) (.int k) = .ok d ∧ P d := by
  obtain ⟨d, _, hd, e⟩ := ix_list h1 h2
  exact ⟨d, e, h d hd⟩
theorem m_row_bent {m : Int} {rs : List D} {c at_ : Int} (h : ∀ r ∈ rs, Row m r) (h3 : m ≤ 3) (hl : rs.length ≤ 100) : ∃ ys, m_law_row_bent [.list rs, .int c, .int at_] = .ok (.list ys) ∧ ys.length ≤ 200 ∧ ∀ y ∈ ys, cpy 6 y := by
  -- the row
  obtain ⟨xs, hx, xl⟩ : ∃ xs : List Int, eIf (qV (e2 opNe (eB 0) (eL aN))) (e2 opIx (eB 0) (e2 opMod (eB 2) (eC bLen (aC (eB 0) aN)))) (eL (aC (eK (.int 0)) aN)) [.sh (.list rs), .sh (.int c), .sh (.int at_), .no, .no, .no, .no] = .ok (intL xs) ∧ xs.length ≤ 100 := by
    have q := (eq_nil (flat_rows h)).2
    cases he : rs.isEmpty with
    | true => exact ⟨[0], (eif_f (qv (op2 rfl (el rfl) (q.trans (by rw [he]; rfl))))).trans (el rfl), by simp⟩
    | false =>
      have h0 : 0 < (rs.length : Int) := by
        cases rs with
        | nil => cases he
        | cons => simp <;> omega
      obtain ⟨d, hd, xs, rfl, l1, l2⟩ := pick (xs := rs) (k := at_ % (rs.length : Int)) (Row m) (Int.emod_nonneg _ (by omega)) (Int.emod_lt_of_pos _ h0) h
      exact ⟨xs, (eif_t (qv (op2 rfl (el rfl) (q.trans (by rw [he]; rfl))))).trans (op2 rfl (op2 rfl (cl1 rfl rfl) (mod_ok h0)) hd), by omega⟩
  obtain ⟨o, ho, oc⟩ := pick (xs := [.int 1001, .int (-1001), .bool true, .none, .str "1", .list [.int 0], .bool false, .int (10 ^ 20), .int 1000, .int (-1000)]) (k := c / 16 % 10) (cpy 3) (by omega) (by simp; omega) fun d hd => by
    simp only [List.mem_cons, List.not_mem_nil, or_false] at hd
    rcases hd with rfl | rfl | rfl | rfl | rfl | rfl | rfl | rfl | rfl | rfl <;> first | exact trivial | exact cpy_ints (xs := [0]) (n := 1) (by simp)
  have cx : cpy 3 (intL xs) := cpy_ints (n := 1) (by omega)
  have ix : ∀ x ∈ xs.map PyData.int, cpy 2 x := fun x hx => by obtain ⟨y, _, rfl⟩ := List.mem_map.mp hx; trivial
  obtain ⟨s, hs, sc⟩ := pick (xs := [.list ((xs.map .int).drop (Int.toNat 1)), .list (xs.map .int ++ [.int 0]), .tuple (xs.map .int), .none, .int 5, .list [], .str "0", .dict [], .list [intL xs]]) (k := c / 16 % 9) (cpy 4) (by omega) (by simp; omega) fun d hd => by
    simp only [List.mem_cons, List.not_mem_nil, or_false] at hd
    rcases hd with rfl | rfl | rfl | rfl | rfl | rfl | rfl | rfl | rfl
    · exact cpy_list (by simp; omega) fun x hx => cpy_succ (ix x (List.mem_of_mem_drop hx))
    · refine cpy_list (by simp; omega) fun x hx => ?_
      rcases List.mem_append.mp hx with hx | hx
      · exact cpy_succ (ix x hx)
      · rw [List.mem_singleton.mp hx]; trivial
    · exact cpy_tup (by simp; omega) fun x hx => cpy_succ (ix x hx)
    · trivial
    · trivial
    · exact cpy_list (by simp) fun x hx => by cases hx
    · trivial
    · trivial
    · exact cpy_list (by simp) fun x hx => by rw [List.mem_singleton.mp hx]; exact cx
  obtain ⟨ps, hp, pl, pm⟩ := m_put (xs := xs.map .int) (at_ := at_ / 4) (t := o) (flat_ints xs 19) (by rw [List.length_map]; omega)
  obtain ⟨t, ht, tc⟩ := pick (xs := [.list ps, s]) (k := c / 8 % 2) (cpy 5) (by omega) (by simp; omega) fun d hd => by
    simp only [List.mem_cons, List.not_mem_nil, or_false] at hd
    rcases hd with rfl | rfl
    · refine cpy_list (by rw [List.length_map] at pl; omega) fun x hx => ?_
      rcases pm x hx with hx | rfl
      · exact cpy_le (ix x hx) (by decide)
      · exact cpy_le oc (by decide)
    · exact cpy_succ sc
  obtain ⟨ys, hy, yl, ym⟩ := m_put (xs := rs) (at_ := at_) (t := t) (flat_rows h) (by omega)
  refine ⟨ys, fn_ret ?_, by omega, fun y hy => ?_⟩
  · refine (seq_next (set_ok hx)).trans ?_
    refine (seq_next (set_ok (d := o) (op2 (x := .list [.int 1001, .int (-1001), .bool true, .none, .str "1", .list [.int 0], .bool false, .int (10 ^ 20), .int 1000, .int (-1000)]) (el (ac rfl (ac (op1 (o := opNeg) (x := .int 1001) rfl rfl) (ac rfl (ac rfl (ac rfl (ac (el rfl) (ac rfl (ac (op2 (y := .int 20) rfl rfl rfl) (ac rfl (ac (op1 (o := opNeg) (x := .int 1000) rfl rfl) rfl))))))))))) (op2 (op2 rfl rfl (div_ok (by decide) (by decide))) rfl (mod_ok (by decide))) ho))).trans ?_
    refine (seq_next (set_ok (d := s) (op2 (el (ac (esl_from (xs := xs.map .int) rfl rfl (by decide)) (ac (op2 rfl (el rfl) (add_list (by simp; omega))) (ac (cl1 rfl rfl) (ac rfl (ac rfl (ac (el rfl) (ac rfl (ac rfl (ac (el (ac rfl rfl)) rfl)))))))))) (op2 (op2 rfl rfl (div_ok (by decide) (by decide))) rfl (mod_ok (by decide))) hs))).trans ?_
    refine (seq_next (set_ok (d := t) (op2 (el (ac (cl3 rfl (op2 rfl rfl (div_ok (by decide) (by decide))) rfl hp) (ac rfl rfl))) (op2 (op2 rfl rfl (div_ok (by decide) (by decide))) rfl (mod_ok (by decide))) ht))).trans ?_
    exact ret_ok (cl3 rfl rfl rfl hy)
  · rcases ym y hy with hy | rfl
    · exact cpy_le (cpy_row (n := 0) (h y hy) h3) (by decide)
    · exact cpy_succ tc
theorem mul_rep {xs : List D} {k : Int} (h1 : -1000 ≤ k) (h2 : k ≤ 1000) (hl : xs.length ≤ 1000) : opMul (.list xs) (.int k) = .ok (.list (reps xs k)) := by
  refine if_pos ⟨by omega, by omega, ?_⟩
  have h3 : k.toNat ≤ 1000 := by omega
  exact Nat.le_trans (Nat.mul_le_mul hl h3) (by decide)
theorem reps_mem {xs : List D} {k : Int} {d : D} (h : d ∈ reps xs k) : d ∈ xs := by
  unfold reps at h
  obtain ⟨l, hl, hd⟩ := List.mem_flatten.mp h
  rw [(List.mem_replicate.mp hl).2] at hd
  exact hd
theorem reps_len (xs : List D) (k : Int) : (reps xs k).length = xs.length * k.toNat := by
  unfold reps
  rw [List.length_flatten, List.map_replicate, List.sum_replicate_nat, Nat.mul_comm]
set_option maxHeartbeats 4000000 in
theorem m_bent {m c at_ : Int} {ws : List D} (L : Loop m ws) : ∃ d, m_law_bent [lp m ws, .int c, .int at_] = .ok d ∧ cpy 11 d ∧ isDic d = false := by
  have m1 := L.1
  have m3 := L.2.1
  have w1 := L.2.2.1
  have w3 := L.2.2.2.1
  have w0 : 0 < (ws.length : Int) := by omega
  have k0 : 0 ≤ at_ % (ws.length : Int) := Int.emod_nonneg _ (by omega)
  have k9 : at_ % (ws.length : Int) < ws.length := Int.emod_lt_of_pos _ w0
  generalize hk : at_ % (ws.length : Int) = k at k0 k9
  obtain ⟨w, hw, asks, gives, rfl, l1, l2, l3, l4⟩ := pick (xs := ws) (k := k) (Way m) k0 k9 L.2.2.2.2
  have cw : ∀ x ∈ ws, cpy 8 x := fun x hx => cpy_way (n := 4) (L.2.2.2.2 x hx) m3
  have cws : cpy 9 (.list ws) := cpy_list (by omega) cw
  have cas : ∀ x ∈ asks, cpy 6 x := fun x hx => cpy_row (n := 4) (l3 x hx) m3
  have cgs : ∀ x ∈ gives, cpy 6 x := fun x hx => cpy_row (n := 4) (l4 x hx) m3
  have ca : cpy 7 (.list asks) := cpy_list (by omega) cas
  have cg : cpy 7 (.list gives) := cpy_list (by omega) cgs
  have c8 : 0 ≤ c % 8 ∧ c % 8 < 8 := by omega
  have q1 : qV (e2 opLt (e2 opMod (eB 1) (eK (.int 8))) (eK (.int 2))) [.sh (lp m ws), .sh (.int c), .sh (.int at_), .sh (.int m), .sh (.list ws), .sh (.int k), .sh (.list asks), .sh (.list gives), .no, .no, .no] = .ok (decide (c % 8 < 2)) := qv (op2 (op2 rfl rfl (mod_ok (by decide))) rfl rfl)
  have q2 : qV (e2 opLt (e2 opMod (eB 1) (eK (.int 8))) (eK (.int 4))) [.sh (lp m ws), .sh (.int c), .sh (.int at_), .sh (.int m), .sh (.list ws), .sh (.int k), .sh (.list asks), .sh (.list gives), .no, .no, .no] = .ok (decide (c % 8 < 4)) := qv (op2 (op2 rfl rfl (mod_ok (by decide))) rfl rfl)
  have q3 : ∀ j : Int, qV (e2 opEq (e2 opMod (eB 1) (eK (.int 8))) (eK (.int j))) [.sh (lp m ws), .sh (.int c), .sh (.int at_), .sh (.int m), .sh (.list ws), .sh (.int k), .sh (.list asks), .sh (.list gives), .no, .no, .no] = .ok (decide (c % 8 = j)) := fun j => qv (op2 (op2 rfl rfl (mod_ok (by decide))) rfl (eq_int _ _))
  -- the head, the end
  have start : ∀ (r : SF) (o : Out), r [.sh (lp m ws), .sh (.int c), .sh (.int at_), .sh (.int m), .sh (.list ws), .sh (.int k), .sh (.list asks), .sh (.list gives), .no, .no, .no] = o →
      sSeq (sSet (gT [(gN 3), (gN 4)]) (eV 0)) (sSeq (sSet (gN 5) (e2 opMod (eB 2) (eC bLen (aC (eB 4) aN)))) (sSeq (sSet (gT [(gN 6), (gN 7)]) (e2 opIx (eB 4) (eV 5))) r)) [.sh (lp m ws), .sh (.int c), .sh (.int at_), .no, .no, .no, .no, .no, .no, .no, .no] = o := fun r o hr => by
    refine (seq_next (e' := [.sh (lp m ws), .sh (.int c), .sh (.int at_), .sh (.int m), .sh (.list ws), .no, .no, .no, .no, .no, .no]) rfl).trans ?_
    refine (seq_next (set_ok (d := .int k) (op2 rfl (cl1 rfl rfl) ((mod_ok w0).trans (by rw [hk]))))).trans ?_
    refine (seq_next (e' := [.sh (lp m ws), .sh (.int c), .sh (.int at_), .sh (.int m), .sh (.list ws), .sh (.int k), .sh (.list asks), .sh (.list gives), .no, .no, .no]) ?_).trans hr
    unfold sSet
    rw [op2 (f := eB 4) (g := eV 5) rfl rfl hw]
    rfl
  have fin : ∀ (wy : D) (v9 : SV), cpy 8 wy → ∃ d, sRet (eT (aC (eV 3) (aC (e2 opAdd (e2 opAdd (eSl (eB 4) oN (oS (eV 5))) (eL (aC (eV 8) aN))) (eSl (eB 4) (oS (e2 opAdd (eB 5) (eK (.int 1)))) oN)) aN))) [.sh (lp m ws), .sh (.int c), .sh (.int at_), .sh (.int m), .sh (.list ws), .sh (.int k), .sh (.list asks), .sh (.list gives), .sh wy, v9, .no] = .ret d ∧ cpy 11 d ∧ isDic d = false := fun wy v9 hwy => by
    refine ⟨.tuple [.int m, .list (ws.take k.toNat ++ [wy] ++ ws.drop (k + 1).toNat)], ret_ok (et (ac rfl (ac (op2 (op2 (esl_to rfl rfl k0) (el (ac rfl rfl)) (add_list (by simp; omega))) (esl_from rfl (op2 rfl rfl rfl) (by omega)) (add_list (by simp; omega))) rfl))), ?_, rfl⟩
    refine cpy_tup (by simp) fun x hx => ?_
    rcases List.mem_cons.mp hx with rfl | hx
    · trivial
    · rw [List.mem_singleton.mp hx]
      refine cpy_list (by simp; omega) fun x hx => cpy_succ ?_
      rcases List.mem_append.mp hx with hx | hx
      · rcases List.mem_append.mp hx with hx | hx
        · exact cw x (List.mem_of_mem_take hx)
        · rw [List.mem_singleton.mp hx]; exact hwy
      · exact cw x (List.mem_of_mem_drop hx)
  have two : ∀ a b : D, cpy 7 a → cpy 7 b → cpy 8 (.tuple [a, b]) := fun a b h1 h2 => cpy_tup (by simp) fun x hx => by
    rcases List.mem_cons.mp hx with rfl | hx
    · exact h1
    · rw [List.mem_singleton.mp hx]; exact h2
  by_cases b1 : c % 8 < 2
  · obtain ⟨ys, hy, yl, ym⟩ := m_row_bent (c := c) (at_ := at_ / 3) l3 m3 (by omega)
    obtain ⟨d, f1, f2⟩ := fin (.tuple [.list ys, .list gives]) .no (two _ _ (cpy_list (by omega) ym) cg)
    exact ⟨d, fn_ret (start _ _ ((seq_next ((if_t (q1.trans (by rw [decide_eq_true b1]))).trans (set_ok (et (ac (cl3 rfl rfl (op2 rfl rfl (div_ok (by decide) (by decide))) hy) (ac rfl rfl)))))).trans f1)), f2⟩
  by_cases b2 : c % 8 < 4
  · obtain ⟨ys, hy, yl, ym⟩ := m_row_bent (c := c) (at_ := at_ / 3) l4 m3 (by omega)
    obtain ⟨d, f1, f2⟩ := fin (.tuple [.list asks, .list ys]) .no (two _ _ ca (cpy_list (by omega) ym))
    exact ⟨d, fn_ret (start _ _ ((seq_next ((if_f (q1.trans (by rw [decide_eq_false b1]))).trans ((if_t (q2.trans (by rw [decide_eq_true b2]))).trans (set_ok (et (ac rfl (ac (cl3 rfl rfl (op2 rfl rfl (div_ok (by decide) (by decide))) hy) rfl))))))).trans f1)), f2⟩
  by_cases b3 : c % 8 = 4
  · have hz : ∀ x ∈ asks ++ reps [intL (List.replicate (m + 1).toNat 0)] (5 - (asks.length : Int)), cpy 6 x := fun x hx => by
      rcases List.mem_append.mp hx with hx | hx
      · exact cas x hx
      · rw [List.mem_singleton.mp (reps_mem hx)]
        exact cpy_ints (n := 4) (by simp; omega)
    have hzl : (asks ++ reps [intL (List.replicate (m + 1).toNat 0)] (5 - (asks.length : Int))).length ≤ 1000 := by
      rw [List.length_append, reps_len]; simp; omega
    generalize hv : asks ++ reps [intL (List.replicate (m + 1).toNat 0)] (5 - (asks.length : Int)) = five at hz hzl
    obtain ⟨t, ht, tc⟩ := pick (xs := [.none, .tuple asks, .list five, .int 5, .list five, .str "", .list (asks.take (Int.toNat 1)), .list five]) (k := c / 8 % 8) (cpy 7) (by omega) (by simp; omega) fun d hd => by
      simp only [List.mem_cons, List.not_mem_nil, or_false] at hd
      rcases hd with rfl | rfl | rfl | rfl | rfl | rfl | rfl | rfl
      · trivial
      · exact cpy_tup (by omega) cas
      · exact cpy_list hzl hz
      · trivial
      · exact cpy_list hzl hz
      · trivial
      · exact cpy_list (by simp; omega) fun x hx => cas x (List.mem_of_mem_take hx)
      · exact cpy_list hzl hz
    obtain ⟨d, f1, f2⟩ := fin (.tuple [t, .list gives]) (.sh (.list five)) (two _ _ tc cg)
    refine ⟨d, fn_ret (start _ _ ((seq_next ((if_f (q1.trans (by rw [decide_eq_false b1]))).trans ((if_f (q2.trans (by rw [decide_eq_false b2]))).trans ((if_t ((q3 4).trans (by rw [decide_eq_true b3]))).trans ((seq_next (set_ok (d := .list five) (op2 rfl (op2 (el (ac (op2 (el rfl) (op2 rfl rfl rfl) (mul_list (by omega) (by omega))) rfl)) (op2 rfl (cl1 rfl rfl) rfl) (mul_rep (by omega) (by omega) (by simp))) ((add_list (by rw [reps_len]; simp; omega)).trans (by rw [hv]))))).trans
      (set_ok (et (ac (op2 (el (ac rfl (ac (cl1 rfl rfl) (ac rfl (ac rfl (ac rfl (ac rfl (ac (esl_to (xs := asks) rfl rfl (by decide)) (ac rfl rfl))))))))) (op2 (op2 rfl rfl (div_ok (by decide) (by decide))) rfl (mod_ok (by decide))) ht) (ac rfl rfl))))))))).trans f1)), f2⟩
  by_cases b4 : c % 8 = 5
  · obtain ⟨g0, hg0, _, gm⟩ : ∃ g0, opIx (.list gives) (.int 0) = .ok g0 ∧ True ∧ g0 ∈ gives := by
      obtain ⟨g0, _, h1, h2⟩ := ix_list (xs := gives) (k := 0) (by decide) (by omega)
      exact ⟨g0, h2, trivial, h1⟩
    obtain ⟨t, ht, tc⟩ := pick (xs := [.none, .tuple gives, .list (gives.drop (Int.toNat 1)), .list (gives ++ [g0]), .int 5, .list [], .dict []]) (k := c / 8 % 7) (cpy 7) (by omega) (by simp; omega) fun d hd => by
      simp only [List.mem_cons, List.not_mem_nil, or_false] at hd
      rcases hd with rfl | rfl | rfl | rfl | rfl | rfl | rfl
      · trivial
      · exact cpy_tup (by omega) cgs
      · exact cpy_list (by simp; omega) fun x hx => cgs x (List.mem_of_mem_drop hx)
      · refine cpy_list (by simp; omega) fun x hx => ?_
        rcases List.mem_append.mp hx with hx | hx
        · exact cgs x hx
        · rw [List.mem_singleton.mp hx]; exact cgs g0 gm
      · trivial
      · exact cpy_list (by simp) fun x hx => by cases hx
      · trivial
    obtain ⟨d, f1, f2⟩ := fin (.tuple [.list asks, t]) .no (two _ _ ca tc)
    refine ⟨d, fn_ret (start _ _ ((seq_next ?_).trans f1)), f2⟩
    refine (if_f (q1.trans (by rw [decide_eq_false b1]))).trans ((if_f (q2.trans (by rw [decide_eq_false b2]))).trans ((if_f ((q3 4).trans (by rw [decide_eq_false b3]))).trans ((if_t ((q3 5).trans (by rw [decide_eq_true b4]))).trans ?_)))
    refine set_ok (et (ac rfl (ac (op2 (x := .list [.none, .tuple gives, .list (gives.drop (Int.toNat 1)), .list (gives ++ [g0]), .int 5, .list [], .dict []]) (el ?_) (op2 (op2 rfl rfl (div_ok (by decide) (by decide))) rfl (mod_ok (by decide))) ht) rfl)))
    refine ac rfl (ac (cl1 rfl rfl) (ac (esl_from (xs := gives) rfl rfl (by decide)) (ac (op2 rfl (el (ac (op2 rfl rfl hg0) rfl)) (add_list (by simp; omega))) ?_)))
    exact ac rfl (ac (el rfl) (ac rfl rfl))
  by_cases b5 : c % 8 = 6
  · obtain ⟨t, ht, tc⟩ := pick (xs := [.list [.list asks, .list gives], .tuple [.list asks], .tuple [.list asks, .list gives, .list []], .none, .str "way", .int 5, .tuple [.list gives, .list asks], .tuple []]) (k := c / 8 % 8) (cpy 8) (by omega) (by simp; omega) fun d hd => by
      simp only [List.mem_cons, List.not_mem_nil, or_false] at hd
      have ce : cpy 7 (.list []) := cpy_list (n := 6) (xs := []) (by simp) fun x hx => by cases hx
      rcases hd with rfl | rfl | rfl | rfl | rfl | rfl | rfl | rfl
      · exact cpy_list (by simp) fun x hx => by
          simp only [List.mem_cons, List.not_mem_nil, or_false] at hx
          rcases hx with rfl | rfl
          · exact ca
          · exact cg
      · exact cpy_tup (by simp) fun x hx => by rw [List.mem_singleton.mp hx]; exact ca
      · exact cpy_tup (by simp) fun x hx => by
          simp only [List.mem_cons, List.not_mem_nil, or_false] at hx
          rcases hx with rfl | rfl | rfl
          · exact ca
          · exact cg
          · exact ce
      · trivial
      · trivial
      · trivial
      · exact two _ _ cg ca
      · exact cpy_tup (by simp) fun x hx => by cases hx
    obtain ⟨d, f1, f2⟩ := fin t .no tc
    refine ⟨d, fn_ret (start _ _ ((seq_next ?_).trans f1)), f2⟩
    refine (if_f (q1.trans (by rw [decide_eq_false b1]))).trans ((if_f (q2.trans (by rw [decide_eq_false b2]))).trans ((if_f ((q3 4).trans (by rw [decide_eq_false b3]))).trans ((if_f ((q3 5).trans (by rw [decide_eq_false b4]))).trans ((if_t ((q3 6).trans (by rw [decide_eq_true b5]))).trans ?_))))
    refine set_ok (op2 (x := .list [.list [.list asks, .list gives], .tuple [.list asks], .tuple [.list asks, .list gives, .list []], .none, .str "way", .int 5, .tuple [.list gives, .list asks], .tuple []]) (el ?_) (op2 (op2 rfl rfl (div_ok (by decide) (by decide))) rfl (mod_ok (by decide))) ht)
    refine ac (el (ac rfl (ac rfl rfl))) (ac (et (ac rfl rfl)) (ac (et (ac rfl (ac rfl (ac (el rfl) rfl)))) ?_))
    exact ac rfl (ac rfl (ac rfl (ac (et (ac rfl (ac rfl rfl))) (ac (et rfl) rfl))))
  · obtain ⟨sm, hsm⟩ : ∃ sm : Str, m.natAbs < 2 ^ 200 ∧ bStr [.int m] = .ok (.str sm) := ⟨toString m, by omega, if_pos (by omega)⟩
    have pr : ∀ (a b : D), cpy 10 a → cpy 10 b → cpy 11 (.tuple [a, b]) := fun a b h1 h2 => cpy_tup (by simp) fun x hx => by
      rcases List.mem_cons.mp hx with rfl | hx
      · exact h1
      · rw [List.mem_singleton.mp hx]; exact h2
    have cw10 : cpy 10 (.list ws) := cpy_succ cws
    obtain ⟨t, ht, tc⟩ := pick (xs := [.list [.int m, .list ws], .tuple [.int m], .tuple [.int m, .list ws, .int 0], .none, .tuple [.int 0, .list ws], .tuple [.int 4, .list ws], .tuple [.bool true, .list ws], .tuple [.int (m + 1), .list ws]] ++
        [.tuple [.int m, .list []], .tuple [.int m, .list (reps ws 4)], .tuple [.int m, .tuple ws], .tuple [.str sm, .list ws], .tuple [.int m, .none], .str "loop", .int 5]) (k := c / 8 % 15) (fun d => cpy 11 d ∧ isDic d = false) (by omega) (by simp; omega) fun d hd => by
      simp only [List.cons_append, List.nil_append, List.mem_cons, List.not_mem_nil, or_false] at hd
      rcases hd with rfl | rfl | rfl | rfl | rfl | rfl | rfl | rfl | rfl | rfl | rfl | rfl | rfl | rfl | rfl
      · exact ⟨cpy_list (by simp) fun x hx => by
          rcases List.mem_cons.mp hx with rfl | hx
          · trivial
          · rw [List.mem_singleton.mp hx]; exact cw10, rfl⟩
      · exact ⟨cpy_tup (by simp) fun x hx => by rw [List.mem_singleton.mp hx]; trivial, rfl⟩
      · exact ⟨cpy_tup (by simp) fun x hx => by
          simp only [List.mem_cons, List.not_mem_nil, or_false] at hx
          rcases hx with rfl | rfl | rfl
          · trivial
          · exact cw10
          · trivial, rfl⟩
      · exact ⟨trivial, rfl⟩
      · exact ⟨pr _ _ trivial cw10, rfl⟩
      · exact ⟨pr _ _ trivial cw10, rfl⟩
      · exact ⟨pr _ _ trivial cw10, rfl⟩
      · exact ⟨pr _ _ trivial cw10, rfl⟩
      · exact ⟨pr _ _ trivial (cpy_list (by simp) fun x hx => by cases hx), rfl⟩
      · exact ⟨pr _ _ trivial (cpy_list (by rw [reps_len]; simp; omega) fun x hx => cpy_succ (cw x (reps_mem hx))), rfl⟩
      · exact ⟨pr _ _ trivial (cpy_tup (by omega) fun x hx => cpy_succ (cw x hx)), rfl⟩
      · exact ⟨pr _ _ trivial cw10, rfl⟩
      · exact ⟨pr _ _ trivial trivial, rfl⟩
      · exact ⟨trivial, rfl⟩
      · exact ⟨trivial, rfl⟩
    refine ⟨t, fn_ret (start _ _ (seq_ret ?_)), tc.1, tc.2⟩
    refine (if_f (q1.trans (by rw [decide_eq_false b1]))).trans ((if_f (q2.trans (by rw [decide_eq_false b2]))).trans ((if_f ((q3 4).trans (by rw [decide_eq_false b3]))).trans ((if_f ((q3 5).trans (by rw [decide_eq_false b4]))).trans ((if_f ((q3 6).trans (by rw [decide_eq_false b5]))).trans ?_))))
    refine (seq_next (set_ok (d := .list [.list [.int m, .list ws], .tuple [.int m], .tuple [.int m, .list ws, .int 0], .none, .tuple [.int 0, .list ws], .tuple [.int 4, .list ws], .tuple [.bool true, .list ws], .tuple [.int (m + 1), .list ws]]) (el ?_))).trans ?_
    · refine ac (el (ac rfl (ac rfl rfl))) (ac (et (ac rfl rfl)) (ac (et (ac rfl (ac rfl (ac rfl rfl)))) (ac rfl ?_)))
      exact ac (et (ac rfl (ac rfl rfl))) (ac (et (ac rfl (ac rfl rfl))) (ac (et (ac rfl (ac rfl rfl))) (ac (et (ac (op2 rfl rfl rfl) (ac rfl rfl))) rfl)))
    refine (seq_next (set_ok (op2 (y := .list [.tuple [.int m, .list []], .tuple [.int m, .list (reps ws 4)], .tuple [.int m, .tuple ws], .tuple [.str sm, .list ws], .tuple [.int m, .none], .str "loop", .int 5]) rfl (el ?_) (add_list (by simp))))).trans ?_
    · refine ac (et (ac rfl (ac (el rfl) rfl))) (ac (et (ac rfl (ac (op2 rfl rfl (mul_rep (by decide) (by decide) (by omega))) rfl))) (ac (et (ac rfl (ac (cl1 rfl rfl) rfl))) ?_))
      exact ac (et (ac (cl1 rfl hsm.2) (ac rfl rfl))) (ac (et (ac rfl (ac rfl rfl))) (ac rfl (ac rfl rfl)))
    exact ret_ok (op2 rfl (op2 (op2 rfl rfl (div_ok (by decide) (by decide))) rfl (mod_ok (by decide))) ht)
end PL

namespace PL
open PySem
/-! ### texts -/
theorem near_of : ∀ {xs : List D}, xs.all nearB = true → ∃ zs : List Int, xs = zs.map .int ∧ ∀ z ∈ zs, -1000 ≤ z ∧ z ≤ 1000
  | [], _ => ⟨[], rfl, fun _ h => by cases h⟩
  | x :: xs, h => by
    rw [List.all_cons, Bool.and_eq_true] at h
    obtain ⟨zs, rfl, hz⟩ := near_of h.2
    cases x with
    | int z =>
      have h1 : (decide (0 - 1000 ≤ z) && decide (z ≤ 1000)) = true := h.1
      rw [Bool.and_eq_true] at h1
      have a := of_decide_eq_true h1.1
      have b := of_decide_eq_true h1.2
      exact ⟨z :: zs, rfl, fun y hy => by
        rcases List.mem_cons.mp hy with rfl | hy
        · omega
        · exact hz y hy⟩
    | _ => exact absurd h.1 Bool.false_ne_true
theorem row_good {m : Int} {d : D} (h : rowB m d = true) : Row m d := by
  cases d with
  | list xs =>
    rw [row_eq, Bool.and_eq_true] at h
    obtain ⟨zs, rfl, hz⟩ := near_of h.2
    have := of_decide_eq_true h.1
    rw [List.length_map] at this
    exact ⟨zs, rfl, this, hz⟩
  | _ => exact absurd h Bool.false_ne_true
theorem rows_good {m : Int} {d : D} (h : rowsB m d = true) : ∃ rs, d = .list rs ∧ ∀ r ∈ rs, Row m r := by
  cases d with
  | list rs => exact ⟨rs, rfl, fun r hr => row_good (List.all_eq_true.mp h r hr)⟩
  | _ => exact absurd h Bool.false_ne_true
theorem way_good {m : Int} {d : D} (h : wayB m d = true) : Way m d := by
  rcases two_or d with ⟨a, b, rfl⟩ | ⟨xs, rfl, hl⟩ | ht
  · have h' : (rowsB m a && rowsB m b && (lenB (fun k => decide (k ≤ 4)) a && lenB (fun k => decide (k = m)) b)) = true := h
    rw [Bool.and_eq_true, Bool.and_eq_true, Bool.and_eq_true] at h'
    obtain ⟨as, rfl, ha⟩ := rows_good h'.1.1
    obtain ⟨bs, rfl, hb⟩ := rows_good h'.1.2
    have e1 := of_decide_eq_true (show decide ((as.length : Int) ≤ 4) = true from h'.2.1)
    have e2 := of_decide_eq_true (show decide ((bs.length : Int) = m) = true from h'.2.2)
    exact ⟨as, bs, rfl, by omega, e2, ha, hb⟩
  · rw [wayB_len hl] at h; cases h
  · rw [wayB_ty ht] at h; cases h
theorem loop_good {d : D} (h : loopB d = true) : ∃ m ws, d = lp m ws ∧ Loop m ws := by
  rcases two_or d with ⟨a, b, rfl⟩ | ⟨xs, rfl, hl⟩ | ht
  · cases a with
    | int m => cases b with
      | list ws =>
        have h' : ((decide (1 ≤ m) && decide (m ≤ 3)) && (decide ((1 : Int) ≤ ws.length) && decide ((ws.length : Int) ≤ 3)) && ws.all (wayB m)) = true := h
        rw [Bool.and_eq_true, Bool.and_eq_true, Bool.and_eq_true, Bool.and_eq_true] at h'
        have e1 := of_decide_eq_true h'.1.1.1
        have e2 := of_decide_eq_true h'.1.1.2
        have e3 := of_decide_eq_true h'.1.2.1
        have e4 := of_decide_eq_true h'.1.2.2
        exact ⟨m, ws, rfl, e1, e2, by omega, by omega, fun w hw => way_good (List.all_eq_true.mp h'.2 w hw)⟩
      | _ => exact absurd h Bool.false_ne_true
    | _ => exact absurd h Bool.false_ne_true
  · rw [loopB_len hl] at h; cases h
  · rw [loopB_ty ht] at h; cases h
/-- a short text -/
def Txs (c : Nat) (d : D) : Prop := ∃ t : Str, d = .str t ∧ t.length ≤ c
theorem tsl : ∀ k : Fin 2001, (Str.ofString (toString ((k.val : Int) - 1000))).length ≤ 5 := by decide +kernel
theorem str_num {z : Int} (h1 : -1000 ≤ z) (h2 : z ≤ 1000) : ∃ d, bStr [.int z] = .ok d ∧ Txs 5 d := by
  refine ⟨_, if_pos (by have : z.natAbs < 2 ^ 60 := by omega
                        exact Nat.lt_trans this (by decide)), _, rfl, ?_⟩
  have h := tsl ⟨(z + 1000).toNat, by omega⟩
  have e : (((z + 1000).toNat : Nat) : Int) - 1000 = z := by omega
  have h' : (Str.ofString (toString ((((z + 1000).toNat : Nat) : Int) - 1000))).length ≤ 5 := h
  rw [e] at h'
  exact h'
theorem asSs_txs {c : Nat} : ∀ {ds : List D}, (∀ d ∈ ds, Txs c d) → ∃ ys, asSs ds = .ok ys ∧ ys.length = ds.length ∧ (ys.map (·.length)).sum ≤ c * ds.length
  | [], _ => ⟨[], rfl, rfl, by simp⟩
  | d :: ds, h => by
    obtain ⟨t, rfl, ht⟩ := h d List.mem_cons_self
    obtain ⟨ys, h1, h2, h3⟩ := asSs_txs (ds := ds) fun y hy => h y (List.mem_cons_of_mem _ hy)
    refine ⟨t :: ys, by show (asSs ds).bind _ = _; rw [h1]; rfl, by rw [List.length_cons, List.length_cons, h2], ?_⟩
    rw [List.map_cons, List.sum_cons, List.length_cons, Nat.mul_succ]
    omega
theorem join_len (a : Str) : ∀ ys : List Str, (Str.join a ys).length ≤ (ys.map (·.length)).sum + ys.length * a.length
  | [] => by show Str.empty.length ≤ _; exact Nat.le_trans (by decide) (Nat.zero_le _)
  | [x] => by show x.length ≤ _; rw [List.map_cons, List.sum_cons]; simp
  | x :: y :: r => by
    have ih := join_len a (y :: r)
    show (x ++ a ++ Str.join a (y :: r)).length ≤ _
    rw [Str.length_append, Str.length_append, List.map_cons, List.sum_cons, List.length_cons, Nat.succ_mul]
    omega
theorem jn {f g : EF} {e : Env} {a : Str} {ds : List D} {c : Nat} (h1 : f e = .ok (.str a)) (h2 : g e = .ok (.list ds)) (h : ∀ d ∈ ds, Txs c d) (hl : ds.length ≤ 1000) (hc : c ≤ 1000) (ha : a.length = 1) : ∃ d, eJn f g e = .ok d ∧ Txs (c * ds.length + ds.length) d := by
  obtain ⟨ys, e1, e2, e3⟩ := asSs_txs h
  have hb : c * ds.length ≤ 1000 * 1000 := Nat.mul_le_mul hc hl
  refine ⟨.str (Str.join a ys), ?_, _, rfl, ?_⟩
  · unfold eJn
    rw [h1]
    show (g e).bind _ = _
    rw [h2]
    show (asSs ds).bind _ = _
    rw [e1]
    show (if (ys.map (·.length)).sum + ys.length * a.length ≤ szL then R.ok (PyData.str (Str.join a ys)) else .stk) = _
    rw [if_pos (by rw [ha, e2]; unfold szL; omega)]
  · have := join_len a ys
    rw [ha, e2] at this
    omega
theorem row_text_ok {m : Int} {w : Str} {r : D} (hw : w.length ≤ 5) (h : Row m r) (h3 : m ≤ 3) : ∃ d, m_row_text [.str w, r] = .ok d ∧ Txs 60 d := by
  obtain ⟨xs, rfl, l1, l2⟩ := h
  obtain ⟨ds, c1, c2, c3⟩ := cmp_all (it := iL (eB 1)) (vs := [2]) (g := gN 2) (t := qY) (f := eC bStr (aC (eB 2) aN)) (e := [.sh (.str w), .sh (intL xs), .no]) (Txs 5) (il rfl) (by rw [List.length_map]; unfold szL; omega) fun x hx => by
    obtain ⟨z, hz, rfl⟩ := List.mem_map.mp hx
    obtain ⟨d, q1, q2⟩ := str_num (l2 z hz).1 (l2 z hz).2
    exact ⟨_, d, rfl, rfl, cl1 rfl q1, q2⟩
  rw [List.length_map] at c2
  obtain ⟨d, j1, t, rfl, j2⟩ := jn (f := eK (.str " ")) (g := e2 opAdd (eL (aC (eV 0) aN)) (eL (cmp (iL (eB 1)) [2] (gN 2) qY (eC bStr (aC (eB 2) aN))))) (e := [.sh (.str w), .sh (intL xs), .no]) (a := " ") (ds := [.str w] ++ ds) (c := 5) rfl (op2 (el (ac rfl rfl)) (el c1) (add_list (by simp; omega))) (fun d hd => by
    rcases List.mem_append.mp hd with hd | hd
    · rw [List.mem_singleton.mp hd]; exact ⟨w, rfl, hw⟩
    · exact c3 d hd) (by simp; omega) (by decide) (by decide)
  refine ⟨_, fn_ret (ret_ok j1), t, rfl, Nat.le_trans j2 ?_⟩
  rw [List.length_append, List.length_singleton]
  omega
theorem ext_ok {i : Nat} {f : EF} {e : Env} {xs ys : List D} (h1 : e[i]? = some (.ow xs)) (h2 : f e = .ok (.list ys)) (hl : xs.length + ys.length ≤ 1000) : sExt i f e = .next (e.set i (.ow (xs ++ ys))) := by
  unfold sExt
  rw [h1]
  dsimp only
  rw [h2]
  show (if xs.length + ys.length ≤ szL then Out.next _ else .stk) = _
  rw [if_pos (Nat.le_trans hl (by decide))]
theorem app_ok {i : Nat} {f : EF} {e : Env} {xs : List D} {d : D} (h1 : e[i]? = some (.ow xs)) (h2 : f e = .ok d) (hl : xs.length ≤ 1000) : sApp i f e = .next (e.set i (.ow (xs ++ [d]))) := by
  unfold sApp
  rw [h1]
  dsimp only
  rw [h2]
  show (if xs.length < szL then Out.next _ else .stk) = _
  rw [if_pos (Nat.lt_of_le_of_lt hl (by decide))]
theorem m_texts {m : Int} {w : Str} {f : EF} {e : Env} {rs : List D} (hw : w.length ≤ 5) (h : ∀ r ∈ rs, Row m r) (h3 : m ≤ 3) (hl : rs.length ≤ 100) (hf : f e = .ok (.list rs)) (hi : ∀ x, eV 3 ((wip [3] e).set 3 (.sh x)) = .ok x) :
    ∃ ds, cmp (iL f) [3] (gN 3) qY (eC m_row_text (aC (eK (.str w)) (aC (eV 3) aN))) e = .ok ds ∧ ds.length = rs.length ∧ ∀ d ∈ ds, Txs 60 d :=
  cmp_all (Txs 60) (il hf) (by unfold szL; omega) fun x hx => by
    obtain ⟨d, q1, q2⟩ := row_text_ok hw (h x hx) h3
    exact ⟨_, d, rfl, rfl, cl2 rfl (hi x) q1, q2⟩
theorem m_written_ok {m : Int} {ws : List D} (L : Loop m ws) : ∃ d, m_written [lp m ws] = .ok d := by
  have m1 := L.1
  have m3 := L.2.1
  have w3 := L.2.2.2.1
  obtain ⟨s, hs, st, rfl, sl⟩ := str_num (z := m) (by omega) (by omega)
  obtain ⟨e', f1, acc, v2, f2, f3, f4⟩ := fLoop_inv (g := gN 2) (b := (sSeq (sApp 1 (eK (.str "way")))
  (sSeq (sExt 1 (eL (cmp (iL (e2 opIx (eB 2) (eK (.int 0)))) [3] (gN 3) qY (eC m_row_text (aC (eK (.str "ask")) (aC (eV 3) aN))))))
  (sExt 1 (eL (cmp (iL (e2 opIx (eB 2) (eK (.int 1)))) [3] (gN 3) qY (eC m_row_text (aC (eK (.str "set")) (aC (eV 3) aN))))))))) (fun i e => ∃ (acc : List D) (v2 : SV), acc.length ≤ 1 + 20 * i ∧ (∀ d ∈ acc, Txs 60 d) ∧ e = [.sh (lp m ws), .ow acc, v2, .no]) (xs := ws) (e := [.sh (lp m ws), .ow [.str ("names " ++ st)], .no, .no]) ⟨_, .no, by simp, fun d hd => by
      rw [List.mem_singleton.mp hd]
      refine ⟨_, rfl, ?_⟩
      rw [Str.length_append]
      exact Nat.le_trans (Nat.add_le_add (show Str.length "names " ≤ 6 by decide) sl) (by decide), rfl⟩ fun i hi e ⟨acc, v2, h1, h2, h3⟩ => by
    subst h3
    obtain ⟨asks, gives, ew, l1, l2, l3, l4⟩ := L.2.2.2.2 _ (List.getElem_mem hi)
    obtain ⟨ds, a1, a2, a3⟩ := m_texts (m := m) (w := "ask") (f := e2 opIx (eB 2) (eK (.int 0))) (e := [.sh (lp m ws), .ow (acc ++ [.str "way"]), .sh (.tuple [.list asks, .list gives]), .no]) (by decide) l3 m3 (by omega) (op2 rfl rfl rfl) fun _ => rfl
    obtain ⟨gs, b1, b2, b3⟩ := m_texts (m := m) (w := "set") (f := e2 opIx (eB 2) (eK (.int 1))) (e := [.sh (lp m ws), .ow (acc ++ [.str "way"] ++ ds), .sh (.tuple [.list asks, .list gives]), .no]) (by decide) l4 m3 (by omega) (op2 rfl rfl rfl) fun _ => rfl
    refine ⟨[.sh (lp m ws), .ow acc, .sh (.tuple [.list asks, .list gives]), .no], [.sh (lp m ws), .ow (acc ++ [.str "way"] ++ ds ++ gs), .sh (.tuple [.list asks, .list gives]), .no], by rw [ew]; rfl, (seq_next (app_ok (d := .str "way") rfl rfl (by omega))).trans ((seq_next (ext_ok (xs := acc ++ [.str "way"]) rfl (el a1) (by simp; omega))).trans (ext_ok (xs := acc ++ [.str "way"] ++ ds) rfl (el b1) (by simp; omega))), _, _, ?_, fun d hd => ?_, rfl⟩
    · simp; omega
    · rcases List.mem_append.mp hd with hd | hd
      · rcases List.mem_append.mp hd with hd | hd
        · rcases List.mem_append.mp hd with hd | hd
          · exact h2 d hd
          · rw [List.mem_singleton.mp hd]; exact ⟨"way", rfl, by decide⟩
        · exact a3 d hd
      · exact b3 d hd
  obtain ⟨d, j1, _⟩ := jn (f := eK (.str "\n")) (g := eB 1) (e := e') (a := "\n") (ds := acc) (c := 60) rfl (by rw [f4]; rfl) f3 (by omega) (by decide) (by decide)
  refine ⟨d, fn_ret ((seq_next (do_ok (cl1 rfl (m_need_ok L)))).trans ((seq_next (e' := [.sh (lp m ws), .ow [.str ("names " ++ st)], .no, .no]) ?_).trans ((seq_next (for_ok (il (op2 rfl rfl rfl)) f1)).trans (ret_ok j1))))⟩
  unfold sOwn
  rw [ac (op2 rfl (cl1 (op2 rfl rfl rfl) hs) (add_str _ _ (Nat.le_trans (Nat.add_le_add (show Str.length "names " ≤ 6 by decide) sl) (by decide)))) an]
  rfl
/-! ### who is asked -/
theorem m_need_gen {d : D} (h : cpy 11 d) : m_need_loop [d] = if loopB d then .ok .none else .err "BadLoop" := by
  have q := qnot (qv (cl1 (f := eV 0) (m := m_is_loop) (e := [.sh d]) rfl (m_loop_gen (n := 6) h)))
  cases hb : loopB d with
  | true => exact fn_next ((if_f (q.trans (by rw [hb]; rfl))).trans rfl)
  | false => exact fn_err ((if_t (q.trans (by rw [hb]; rfl))).trans rfl)
theorem asked_bad {d : D} {k : Int} (h : cpy 11 d) (hb : loopB d = false) (h0 : 0 ≤ k) (h7 : k ≤ 7) : m_law_asked [.int k, d] = .err "BadLoop" := by
  have nl : m_need_loop [d] = .err "BadLoop" := by rw [m_need_gen h, hb]; rfl
  have q : ∀ j : Int, qV (e2 opEq (eB 0) (eK (.int j))) [.sh (.int k), .sh d] = .ok (decide (k = j)) := fun j => qv (op2 rfl rfl (eq_int _ _))
  have stub : ∀ (n : Nat) (ds : List D), fnR n (sSeq (sDo (eC m_need_loop (aC (eV 0) aN))) sStk) (d :: ds) = .err "BadLoop" := fun n ds => fn_err (seq_err (do_err (cl1 rfl nl)))
  have err : ∀ (f : EF) (e : Env) (c : Str), f e = .err c → sRet f e = .err c := fun f e c hf => by unfold sRet; rw [hf]; rfl
  refine fn_err ?_
  by_cases b0 : k = 0
  · exact seq_err ((if_t ((q 0).trans (by rw [decide_eq_true b0]))).trans (err _ _ _ (cl1 rfl nl)))
  refine (seq_next ((if_f ((q 0).trans (by rw [decide_eq_false b0]))).trans rfl)).trans ?_
  by_cases b1 : k = 1
  · exact seq_err ((if_t ((q 1).trans (by rw [decide_eq_true b1]))).trans (err _ _ _ (cl3 rfl rfl rfl (stub _ _))))
  refine (seq_next ((if_f ((q 1).trans (by rw [decide_eq_false b1]))).trans rfl)).trans ?_
  by_cases b2 : k = 2
  · exact seq_err ((if_t ((q 2).trans (by rw [decide_eq_true b2]))).trans (err _ _ _ (cl3 rfl rfl (op1 (o := opNeg) (x := .int 1) rfl rfl) (stub _ _))))
  refine (seq_next ((if_f ((q 2).trans (by rw [decide_eq_false b2]))).trans rfl)).trans ?_
  by_cases b3 : k = 3
  · exact seq_err ((if_t ((q 3).trans (by rw [decide_eq_true b3]))).trans (err _ _ _ (cl1 rfl (stub _ _))))
  refine (seq_next ((if_f ((q 3).trans (by rw [decide_eq_false b3]))).trans rfl)).trans ?_
  by_cases b4 : k = 4
  · exact seq_err ((if_t ((q 4).trans (by rw [decide_eq_true b4]))).trans (err _ _ _ (cl3 rfl rfl rfl (stub _ _))))
  refine (seq_next ((if_f ((q 4).trans (by rw [decide_eq_false b4]))).trans rfl)).trans ?_
  by_cases b5 : k = 5
  · exact seq_err ((if_t ((q 5).trans (by rw [decide_eq_true b5]))).trans (err _ _ _ (cl2 rfl rfl (stub _ _))))
  refine (seq_next ((if_f ((q 5).trans (by rw [decide_eq_false b5]))).trans rfl)).trans ?_
  by_cases b6 : k = 6
  · exact seq_err ((if_t ((q 6).trans (by rw [decide_eq_true b6]))).trans (err _ _ _ (cl3 rfl rfl rfl (stub _ _))))
  refine (seq_next ((if_f ((q 6).trans (by rw [decide_eq_false b6]))).trans rfl)).trans ?_
  exact err _ _ _ (cl1 rfl (fn_err (seq_err (do_err (cl1 rfl nl)))))
theorem asked_need {d : D} (h : cpy 11 d) (hb : loopB d = true) : m_law_asked [.int 0, d] = .ok .none := by
  have nl : m_need_loop [d] = .ok .none := by rw [m_need_gen h, hb]; rfl
  exact fn_ret (seq_ret ((if_t (qv (op2 rfl rfl (eq_int 0 0)))).trans (ret_ok (cl1 rfl nl))))
theorem asked_written {d : D} (hb : loopB d = true) : ∃ x, m_law_asked [.int 7, d] = .ok x := by
  obtain ⟨m, ws, rfl, L⟩ := loop_good hb
  obtain ⟨x, hx⟩ := m_written_ok L
  have q : ∀ j : Int, qV (e2 opEq (eB 0) (eK (.int j))) [.sh (.int 7), .sh (lp m ws)] = .ok (decide ((7 : Int) = j)) := fun j => qv (op2 rfl rfl (eq_int _ _))
  exact ⟨x, fn_ret ((seq_next ((if_f (q 0)).trans rfl)).trans ((seq_next ((if_f (q 1)).trans rfl)).trans ((seq_next ((if_f (q 2)).trans rfl)).trans ((seq_next ((if_f (q 3)).trans rfl)).trans ((seq_next ((if_f (q 4)).trans rfl)).trans ((seq_next ((if_f (q 5)).trans rfl)).trans ((seq_next ((if_f (q 6)).trans rfl)).trans (ret_ok (cl1 rfl hx)))))))))⟩
theorem word_bad {d : D} {k : Int} (h : m_law_asked [.int k, d] = .err "BadLoop") : m_law_word [.int k, d] = .ok (.str "loop ") := by
  refine fn_ret (seq_ret ?_)
  unfold sTry
  rw [do_err (cl2 rfl rfl h)]
  rfl
theorem word_good {d x : D} {k : Int} (h : m_law_asked [.int k, d] = .ok x) : m_law_word [.int k, d] = .ok (.str "") := by
  refine fn_ret ((seq_next (e' := [.sh (.int k), .sh d, .no]) ?_).trans (ret_ok rfl))
  unfold sTry
  rw [do_ok (cl2 rfl rfl h)]
  rfl
theorem eq_same {n : Nat} {d : D} (h : cpy n d) (hn : n ≤ 20) (hd : isDic d = false) : opEq d d = .ok (.bool true) := by
  unfold opEq; rw [eqD_refl h hn hd]; rfl
set_option maxHeartbeats 4000000 in
theorem law_true : ∀ ns : List Int, ns.length ≤ 63 → (∀ z ∈ ns, Builtin.Int.intBits z ≤ 1048576) → m_law [scr (ns.map .int)] = .ok (.bool true) := by
  intro ns _ _
  obtain ⟨m, ws, hl, L⟩ := m_loop_by (ns := ns) (at_ := 3) (by decide)
  -- the thing
  obtain ⟨d, hd, cd, nd⟩ : ∃ d, sIf (qV (e2 opGt (e2 opMod (eB 2) (eK (.int 6))) (eK (.int 0)))) (sSet (gN 3) (eC m_law_bent (aC (eV 1) (aC (e2 opDiv (eB 2) (eK (.int 6))) (aC (eC m_law_cell_at (aC (eV 0) (aC (eK (.int 1)) aN))) aN))))) sNil [.sh (scri ns), .sh (lp m ws), .sh (.int (cell ns 0)), .sh (lp m ws), .no, .no] = .next [.sh (scri ns), .sh (lp m ws), .sh (.int (cell ns 0)), .sh d, .no, .no] ∧ cpy 11 d ∧ isDic d = false := by
    have q : qV (e2 opGt (e2 opMod (eB 2) (eK (.int 6))) (eK (.int 0))) [.sh (scri ns), .sh (lp m ws), .sh (.int (cell ns 0)), .sh (lp m ws), .no, .no] = .ok (decide (0 < cell ns 0 % 6)) := qv (op2 (op2 rfl rfl (mod_ok (by decide))) rfl rfl)
    by_cases b : 0 < cell ns 0 % 6
    · obtain ⟨d, h1, h2, h3⟩ := m_bent (c := cell ns 0 / 6) (at_ := cell ns 1) L
      exact ⟨d, (if_t (q.trans (by rw [decide_eq_true b]))).trans (set_ok (cl3 rfl (op2 rfl rfl (div_ok (by decide) (by decide))) (cl2 rfl rfl (m_cell (by decide))) h1)), h2, h3⟩
    · exact ⟨lp m ws, (if_f (q.trans (by rw [decide_eq_false b]))).trans rfl, cpy_loop (n := 5) L, rfl⟩
  have cd12 : cpy 12 d := cpy_succ cd
  have hcopy := m_copied cd12
  have hself := eq_same cd12 (by decide) nd
  have hnes := ne_refl cd12 (by decide) nd
  refine fn_ret ?_
  refine (seq_next (set_ok (cl2 rfl rfl hl))).trans ?_
  refine (seq_next (set_ok (cl2 rfl rfl (m_cell (by decide))))).trans ?_
  refine (seq_next (set_ok (d := lp m ws) rfl)).trans ?_
  refine (seq_next hd).trans ?_
  refine (seq_next (set_ok (d := d) (cl1 rfl hcopy))).trans ?_
  refine (seq_next (set_ok (d := .bool (loopB d)) (cl1 rfl (l_loop_gen (n := 6) cd)))).trans ?_
  cases hb : loopB d with
  | true =>
    have w0 := word_good (asked_need cd hb)
    obtain ⟨x, hx⟩ := asked_written hb
    have w7 := word_good hx
    have nl : m_need_loop [d] = .ok .none := by rw [m_need_gen cd, hb]; rfl
    refine (seq_next ((if_f ((qor (qv (op2 (cl2 rfl rfl w0) (op2 (el rfl) (cl1 rfl rfl) rfl) (eq_str (eq_self _)).2)) fun _ => qv (op2 rfl rfl hnes)).trans rfl)).trans rfl)).trans ?_
    exact seq_ret ((if_t (qv rfl)).trans (ret_to (eand (op2 (cl1 rfl nl) rfl rfl) fun _ => eand (op2 (cl2 rfl rfl w7) rfl (eq_str (eq_self _)).1) fun _ => op2 rfl rfl hself) rfl))
  | false =>
    have w0 := word_bad (asked_bad (k := 0) cd hb (by decide) (by decide))
    have wk := word_bad (asked_bad (k := 1 + cell ns 2 % 7) cd hb (by omega) (by omega))
    refine (seq_next ((if_f ((qor (qv (op2 (cl2 rfl rfl w0) (op2 (el rfl) (cl1 rfl rfl) rfl) (eq_str (eq_self _)).2)) fun _ => qv (op2 rfl rfl hnes)).trans rfl)).trans rfl)).trans ?_
    refine (seq_next ((if_f (qv rfl)).trans rfl)).trans ?_
    exact ret_to (eand (op2 (cl2 (op2 rfl (op2 (cl2 rfl rfl (m_cell (by decide))) rfl (mod_ok (by decide))) rfl) rfl wk) rfl (eq_str (eq_self _)).1) fun _ => op2 rfl rfl hself) rfl
end PL

open PySem PySem.W PyProof.Rows
set_option maxHeartbeats 0 in
theorem PySem.Challenge.cw_loopgauge_k01_what_is_no_loop_holds : PySem.Challenge.rw_loopgauge_k01_what_is_no_loop.Holds := by
  w_on; o_law; k_head; (case hw => w_witness2)
  k_fill
  refine L2.walk_ofB (l := PySem.Challenge.rw_loopgauge_k01_what_is_no_loop) (n := 63) (k := 14) (x := "_law_script") (CX := fun w => L2.CX PySem.Challenge.rw_loopgauge_k01_what_is_no_loop.prog w) (sp := fun w => PL.spLaw _) rfl (by decide) rfl ⟨rfl, by decide, by decide⟩ (fun w h Y => PySem.W.kIn_of Y) ?F (fun _ _ a ns hl hb _ hS => ⟨a, ns, rfl, hS, hl, hb, fun _ => rfl⟩) (fun _ _ _ _ _ h => PL.cx_no h)
  case F =>
    intro w mg fa h KX G hmg
    refine' PL.all_mk KX G hmg ?a0 ?l0 ?c0 ?k0 ?a1 ?l1 ?c1 ?k1 ?a2 ?l2 ?c2 ?k2 ?a3 ?l3 ?c3 ?k3 ?a4 ?l4 ?c4 ?k4 ?a5 ?l5 ?c5 ?k5 ?a6 ?l6 ?c6 ?k6 ?a7 ?l7 ?c7 ?k7 ?a8 ?l8 ?c8 ?k8 ?a9 ?l9 ?c9 ?k9 ?a10 ?l10 ?c10 ?k10 ?a11 ?l11 ?c11 ?k11 ?a12 ?l12 ?c12 ?k12 ?a13 ?l13 ?c13 ?k13 ?a14 ?l14 ?c14 ?k14 ?a15 ?l15 ?c15 ?k15 ?a16 ?l16 ?c16 ?k16 ?a17 ?l17 ?c17 ?k17 ?a18 ?l18 ?c18 ?k18 ?a19 ?l19 ?c19 ?k19 ?a20 ?l20 ?c20 ?k20 ?a21 ?l21 ?c21 ?k21 ?a22 ?l22 ?c22 ?k22 ?a23 ?l23 ?c23 ?k23 ?a24 ?l24 ?c24 ?k24 ?a25 ?l25 ?c25 ?k25 ?a26 ?l26 ?c26 ?k26 ?a27 ?l27 ?c27 ?k27 ?a28 ?l28 ?c28 ?k28 ?a29 ?l29 ?c29 ?k29 ?a30 ?l30 ?c30 ?k30 ?z_ValueError ?z_all ?z_bool ?z_int ?z_isinstance ?z_len ?z_list ?z_max ?z_min ?z_range ?z_str ?z_tuple ?q_MOST_NAMES ?q_MOST_WAYS ?q_MOST_ASKS ?q_FAR ?g_LoopError ?xi_LoopError ?kC_LoopError ?bC_LoopError ?tC_LoopError ?iC_LoopError ?vC_LoopError ?g_BadLoop ?xi_BadLoop ?kC_BadLoop ?bC_BadLoop ?tC_BadLoop ?iC_BadLoop ?vC_BadLoop ?g_BadState ?xi_BadState ?kC_BadState ?bC_BadState ?tC_BadState ?iC_BadState ?vC_BadState ?g_BadCount ?xi_BadCount ?kC_BadCount ?bC_BadCount ?tC_BadCount ?iC_BadCount ?vC_BadCount ?g_BadGauge ?xi_BadGauge ?kC_BadGauge ?bC_BadGauge ?tC_BadGauge ?iC_BadGauge ?vC_BadGauge ?g_BadTable ?xi_BadTable ?kC_BadTable ?bC_BadTable ?tC_BadTable ?iC_BadTable ?vC_BadTable ?g_BadText ?xi_BadText ?kC_BadText ?bC_BadText ?tC_BadText ?iC_BadText ?vC_BadText ?ea ?eb ?e1_BadLoop ?e2_BadLoop ?e3_BadLoop ?e4_BadLoop ?e5_BadLoop ?s_BadLoop_LoopError ?n_BadLoop_LoopError ?s_BadLoop_BadState ?n_BadLoop_BadState ?s_BadLoop_BadCount ?n_BadLoop_BadCount ?s_BadLoop_BadGauge ?n_BadLoop_BadGauge ?s_BadLoop_BadTable ?n_BadLoop_BadTable ?s_BadLoop_BadText ?n_BadLoop_BadText PL.law_true
    (case a0 => k_is)
    (case l0 => k_is)
    (case c0 => k_is)
    (case k0 => k_is)
    (case a1 => k_is)
    (case l1 => k_is)
    (case c1 => k_is)
    (case k1 => k_is)
    (case a2 => k_is)
    (case l2 => k_is)
    (case c2 => k_is)
    (case k2 => k_is)
    (case a3 => k_is)
    (case l3 => k_is)
    (case c3 => k_is)
    (case k3 => k_is)
    (case a4 => k_is)
    (case l4 => k_is)
    (case c4 => k_is)
    (case k4 => k_is)
    (case a5 => k_is)
    (case l5 => k_is)
    (case c5 => k_is)
    (case k5 => k_is)
    (case a6 => k_is)
    (case l6 => k_is)
    (case c6 => k_is)
    (case k6 => k_is)
    (case a7 => k_is)
    (case l7 => k_is)
    (case c7 => k_is)
    (case k7 => k_is)
    (case a8 => k_is)
    (case l8 => k_is)
    (case c8 => k_is)
    (case k8 => k_is)
    (case a9 => k_is)
    (case l9 => k_is)
    (case c9 => k_is)
    (case k9 => k_is)
    (case a10 => k_is)
    (case l10 => k_is)
    (case c10 => k_is)
    (case k10 => k_is)
    (case a11 => k_is)
    (case l11 => k_is)
    (case c11 => k_is)
    (case k11 => k_is)
    (case a12 => k_is)
    (case l12 => k_is)
    (case c12 => k_is)
    (case k12 => k_is)
    (case a13 => k_is)
    (case l13 => k_is)
    (case c13 => k_is)
    (case k13 => k_is)
    (case a14 => k_is)
    (case l14 => k_is)
    (case c14 => k_is)
    (case k14 => k_is)
    (case a15 => k_is)
    (case l15 => k_is)
    (case c15 => k_is)
    (case k15 => k_is)
    (case a16 => k_is)
    (case l16 => k_is)
    (case c16 => k_is)
    (case k16 => k_is)
    (case a17 => k_is)
    (case l17 => k_is)
    (case c17 => k_is)
    (case k17 => k_is)
    (case a18 => k_is)
    (case l18 => k_is)
    (case c18 => k_is)
    (case k18 => k_is)
    (case a19 => k_is)
    (case l19 => k_is)
    (case c19 => k_is)
    (case k19 => k_is)
    (case a20 => k_is)
    (case l20 => k_is)
    (case c20 => k_is)
    (case k20 => k_is)
    (case a21 => k_is)
    (case l21 => k_is)
    (case c21 => k_is)
    (case k21 => k_is)
    (case a22 => k_is)
    (case l22 => k_is)
    (case c22 => k_is)
    (case k22 => k_is)
    (case a23 => k_is)
    (case l23 => k_is)
    (case c23 => k_is)
    (case k23 => k_is)
    (case a24 => k_is)
    (case l24 => k_is)
    (case c24 => k_is)
    (case k24 => k_is)
    (case a25 => k_is)
    (case l25 => k_is)
    (case c25 => k_is)
    (case k25 => k_is)
    (case a26 => k_is)
    (case l26 => k_is)
    (case c26 => k_is)
    (case k26 => k_is)
    (case a27 => k_is)
    (case l27 => k_is)
    (case c27 => k_is)
    (case k27 => k_is)
    (case a28 => k_is)
    (case l28 => k_is)
    (case c28 => k_is)
    (case k28 => k_is)
    (case a29 => k_is)
    (case l29 => k_is)
    (case c29 => k_is)
    (case k29 => k_is)
    (case a30 => k_is)
    (case l30 => k_is)
    (case c30 => k_is)
    (case k30 => k_is)
    (case z_ValueError => k_is)
    (case z_all => k_is)
    (case z_bool => k_is)
    (case z_int => k_is)
    (case z_isinstance => k_is)
    (case z_len => k_is)
    (case z_list => k_is)
    (case z_max => k_is)
    (case z_min => k_is)
    (case z_range => k_is)
    (case z_str => k_is)
    (case z_tuple => k_is)
    (case q_MOST_NAMES => k_is)
    (case q_MOST_WAYS => k_is)
    (case q_MOST_ASKS => k_is)
    (case q_FAR => k_is)
    (case g_LoopError => k_is)
    (case xi_LoopError => k_exc)
    (case kC_LoopError => k_is)
    (case bC_LoopError => k_is)
    (case tC_LoopError => k_is)
    (case iC_LoopError => k_is)
    (case vC_LoopError => k_is)
    (case g_BadLoop => k_is)
    (case xi_BadLoop => k_exc)
    (case kC_BadLoop => k_is)
    (case bC_BadLoop => k_is)
    (case tC_BadLoop => k_is)
    (case iC_BadLoop => k_is)
    (case vC_BadLoop => k_is)
    (case g_BadState => k_is)
    (case xi_BadState => k_exc)
    (case kC_BadState => k_is)
    (case bC_BadState => k_is)
    (case tC_BadState => k_is)
    (case iC_BadState => k_is)
    (case vC_BadState => k_is)
    (case g_BadCount => k_is)
    (case xi_BadCount => k_exc)
    (case kC_BadCount => k_is)
    (case bC_BadCount => k_is)
    (case tC_BadCount => k_is)
    (case iC_BadCount => k_is)
    (case vC_BadCount => k_is)
    (case g_BadGauge => k_is)
    (case xi_BadGauge => k_exc)
    (case kC_BadGauge => k_is)
    (case bC_BadGauge => k_is)
    (case tC_BadGauge => k_is)
    (case iC_BadGauge => k_is)
    (case vC_BadGauge => k_is)
    (case g_BadTable => k_is)
    (case xi_BadTable => k_exc)
    (case kC_BadTable => k_is)
    (case bC_BadTable => k_is)
    (case tC_BadTable => k_is)
    (case iC_BadTable => k_is)
    (case vC_BadTable => k_is)
    (case g_BadText => k_is)
    (case xi_BadText => k_exc)
    (case kC_BadText => k_is)
    (case bC_BadText => k_is)
    (case tC_BadText => k_is)
    (case iC_BadText => k_is)
    (case vC_BadText => k_is)
    (case ea => k_is)
    (case eb => k_is)
    (case e1_BadLoop => k_is)
    (case e2_BadLoop => k_is)
    (case e3_BadLoop => k_is)
    (case e4_BadLoop => k_is)
    (case e5_BadLoop => k_is)
    (case s_BadLoop_LoopError => k_is)
    (case n_BadLoop_LoopError => rfl)
    (case s_BadLoop_BadState => k_is)
    (case n_BadLoop_BadState => rfl)
    (case s_BadLoop_BadCount => k_is)
    (case n_BadLoop_BadCount => rfl)
    (case s_BadLoop_BadGauge => k_is)
    (case n_BadLoop_BadGauge => rfl)
    (case s_BadLoop_BadTable => k_is)
    (case n_BadLoop_BadTable => rfl)
    (case s_BadLoop_BadText => k_is)
    (case n_BadLoop_BadText => rfl)


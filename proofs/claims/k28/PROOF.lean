import PyProof.Rows.All
import Wide.All
import OpenK.AllK
import Wide.FinOn
import HandS.ForMost
import HandS.ForExc
import HandS.IsInst
import HandS.TupAny
import HandS.StrMore
import HandS.ExcInit
import HandS.TryMany
import HandS.ExcField
import KE.KSuper
import KE.KExcSuper
import KE.KExcIs
import HandS.Style
import HandS.Zip
import HandS.Defaults
import HandS.WordsExc
import HandS.Codes
import HandS.HeadEnd
import HandS.HeadHook1
import HandS.HeadHook2
import HandS.Head0
import HandS.Head1
import HandS.Head2
import KE.KStateDown
import Lean
import PySem.Challenge.RW_wirestowords_k28_whole_words_of_leases
set_option Elab.async false
set_option linter.all false
set_option maxRecDepth 100000
set_option autoImplicit false
set_option maxHeartbeats 0
/-! Pv1: a small evaluator over plain data for the defs of a program (own work): data, codes, what a code yields. -/
namespace Pv
open PySem

/-- plain data -/
inductive D where
  | non | bl (b : Bool) | int (i : Int) | str (x : Str)
  | tup (ds : List D) | lst (ds : List D) | dic (kvs : List (D × D)) | scr (ds : List D)
  | adr (b : Nat) | gl (b : Nat) (ds : List D)
  deriving Inhabited

/-- what a slot holds: nothing, data, an own changing object, one that the caller lent, one that a loop walks -/
inductive W where
  | un | dat (d : D) | own (d : D) | bor (d : D) | lck (d : D)
  deriving Inhabited
abbrev Env := List W
/-- what an expression gives: data, a new object that nobody else has, the object at a slot -/
inductive A where
  | d (d : D) | fr (d : D) | pl (i : Nat) | ft (ds : List D) (s : D)
  deriving Inhabited
/-- an exception: its class by number, its name, its place -/
structure Ex where
  cls : Nat
  nm : Str
  place : D
  deriving Inhabited
inductive R (α : Type) where
  | ok (a : α) (ρ : Env) | exc (x : Ex) (ρ : Env) | stuck
/-- what a call gives: the value, what the arguments hold then -/
inductive CO where
  | ok (a : A) (ws : List W) | exc (x : Ex) (ws : List W) | stuck | any (f : Nat → CO)
inductive FR where
  | next (ρ : Env) | ret (a : A) (ρ : Env) | brk (ρ : Env) | cont (ρ : Env) | exc (x : Ex) (ρ : Env) | stuck | any (f : Nat → FR)

def R.bind {α β : Type} (r : R α) (f : α → Env → R β) : R β := match r with
  | .ok a ρ => f a ρ
  | .exc x ρ => .exc x ρ
  | .stuck => .stuck
@[simp] theorem R.bind_ok {α β : Type} (a : α) (ρ : Env) (f : α → Env → R β) : (R.ok a ρ).bind f = f a ρ := rfl
@[simp] theorem R.bind_exc {α β : Type} (x : Ex) (ρ : Env) (f : α → Env → R β) : (R.exc x ρ : R α).bind f = .exc x ρ := rfl
@[simp] theorem R.bind_stuck {α β : Type} (f : α → Env → R β) : (R.stuck : R α).bind f = .stuck := rfl
def R.of {α : Type} (o : Option α) (ρ : Env) : R α := match o with
  | some a => .ok a ρ
  | none => .stuck
@[simp] theorem R.of_some {α : Type} (a : α) (ρ : Env) : R.of (some a) ρ = .ok a ρ := rfl
@[simp] theorem R.of_none {α : Type} (ρ : Env) : R.of (none : Option α) ρ = .stuck := rfl

def W.cont : W → Option D
  | .un => none
  | .dat d => some d
  | .own d => some d
  | .bor d => some d
  | .lck d => some d
/-- the content -/
def A.get (a : A) (ρ : Env) : Option D := match a with
  | .d x => some x
  | .fr x => some x
  | .pl i => (ρ[i]?).bind W.cont
  | .ft _ _ => none
def getsA : List A → Env → Option (List D)
  | [], _ => some []
  | a :: r, ρ => (a.get ρ).bind fun d => (getsA r ρ).map (d :: ·)
/-- as data from now on -/
def A.frz (a : A) (ρ : Env) : R D := match a with
  | .d x => .ok x ρ
  | .fr x => .ok x ρ
  | .pl i => match ρ[i]? with
    | some (.dat x) => .ok x ρ
    | some (.own x) => .ok x (ρ.set i (.dat x))
    | _ => .stuck
  | .ft _ _ => .stuck

def thaw (a : A) (ρ : Env) : R A := match a with
  | .fr x => .ok (.fr x) ρ
  | a => (a.frz ρ).bind fun d ρ => .ok (.d d) ρ
/-! ### codes -/
mutual
inductive E where
  | var (i : Nat)
  | cst (d : D)
  | tup (es : Es)
  | lst (es : Es)
  | bin (op : Operator) (a b : E)
  | neg (a : E)
  | cmp (op : CmpOp) (a b : E)
  | cmp2 (op1 op2 : CmpOp) (a b c : E)
  | and (a b : E)
  | or (a b : E)
  | not (a : E)
  | ife (c : T) (a b : E)
  | ix (a i : E)
  | sl (a : E) (lo hi : Eo)
  | call (f : Nat) (es : Es)
  | bi (b : Nat) (es : Es)
  | isi (a : E) (t : Nat)
  | mt0 (m : Nat) (o : E)
  | mt1 (m : Nat) (o e : E)
  | lc (elt : E) (tg : Tg) (it : It) (c : T) (vs : List Nat)
  | ali (c g : Nat)
  | mkT (a b : E)
  | callT (f : Nat) (es : Es) (g : Nat)
  | no
/-- tests -/
inductive T where
  | yes
  | val (e : E)
  | not (a : T)
  | and (a b : T)
  | or (a b : T)
  | ife (c a b : T)
inductive Es where
  | nil
  | cons (m : Bool) (e : E) (r : Es)
inductive Eo where
  | no
  | so (e : E)
inductive Tg where
  | name (i : Nat)
  | tup (ts : Tgs)
inductive Tgs where
  | nil
  | cons (t : Tg) (r : Tgs)
inductive It where
  | ex (e : E)
  | rng1 (a : E)
  | rng2 (a b : E)
  | zip (a b : E)
  | enm (a : E)
  | rng3 (a b c : E)
end
/-- in an except suite: a constant, the place, the name -/
inductive HI where
  | cst (d : D) | plc | nam
/-- .. of the error, tuples of such, a if it is a ValueError else b -/
inductive HE where
  | one (h : HI) | tup (hs : List HI) | isv (a b : HI)
/-- except suites -/
inductive Su where
  | ret (h : HE) | retIs (h : HE) | pass | app (i : Nat) (h : HI)
mutual
inductive S where
  | asg (t : Tg) (e : E)
  | par (i j : Nat) (a b : E)
  | aug (i : Nat) (op : Operator) (e : E)
  | app (i : Nat) (e : E)
  | seti (i : Nat) (k e : E)
  | expr (e : E)
  | iff (c : T) (a b : Ss)
  | whl (c : T) (b : Ss)
  | fr (t : Tg) (it : It) (b : Ss)
  | ret (e : E)
  | retN
  | pass
  | brk
  | cont
  | rse (c : Nat) (z : Str) (e : E)
  | tryAs (b : Ss) (c i : Nat) (su : Su)
  | tryM (b : Ss) (hs : List (Nat × Su))
  | asgT (i g : Nat) (e : E)
  | gset (c g : Nat) (k e : E)
  | gpop (c g : Nat)
  | no
  | mpar (is : List Nat) (es : Es)
inductive Ss where
  | nil
  | cons (s : S) (r : Ss)
end

/-! ### operations on data -/
abbrev Line : Nat := 16777216
def strRep (x : Str) (n : Nat) : Str := ⟨(List.replicate n x.cps).foldl (· ++ ·) #[]⟩
def binD (op : Operator) (x y : D) : Option A := match x, y with
  | .int i, .int j => match op with
    | .Add => some (.d (.int (i + j)))
    | .Sub => some (.d (.int (i - j)))
    | .Mult => if (-(2 ^ 64) < i ∧ i < 2 ^ 64) ∨ (-(2 ^ 64) < j ∧ j < 2 ^ 64) then some (.d (.int (i * j))) else none
    | .FloorDiv => if 0 < j ∧ j < 1073741824 then some (.d (.int (i / j))) else none
    | .Mod => if 0 < j then some (.d (.int (i % j))) else none
    | .Pow => if 0 ≤ j ∧ j ≤ 1000000 ∧ i.natAbs < 2 ^ 64 then some (.d (.int (i ^ j.toNat))) else none
    | .LShift => if 0 ≤ j ∧ j ≤ 1000000 ∧ i.natAbs < 2 ^ 64 then some (.d (.int (i * 2 ^ j.toNat))) else none
    | .RShift => if 0 ≤ j then some (.d (.int (i / 2 ^ j.toNat))) else none
    | .BitAnd => some (.d (.int (Builtin.bitAnd i j)))
    | .BitOr => some (.d (.int (Builtin.bitOr i j)))
    | .BitXor => some (.d (.int (Builtin.bitXor i j)))
    | _ => none
  | .str a, .str b => match op with
    | .Add => if a.length + b.length ≤ Line then some (.d (.str (a ++ b))) else none
    | _ => none
  | .tup xs, .tup ys => match op with
    | .Add => if xs.length + ys.length ≤ Line then some (.d (.tup (xs ++ ys))) else none
    | _ => none
  | .lst xs, .lst ys => match op with
    | .Add => if xs.length + ys.length ≤ Line then some (.fr (.lst (xs ++ ys))) else none
    | _ => none
  | .lst xs, .int k => match op with
    | .Mult => if -(2 ^ 63) ≤ k ∧ k < 2 ^ 63 ∧ xs.length * k.toNat ≤ Line then some (.fr (.lst (List.replicate k.toNat xs).flatten)) else none
    | _ => none
  | .str x, .int k => match op with
    | .Mult => if -(2 ^ 63) ≤ k ∧ k < 2 ^ 63 ∧ x.length * k.toNat ≤ Line then some (.d (.str (strRep x k.toNat))) else none
    | _ => none
  | _, _ => none
/-- of one kind and equal, for the kinds that == tells apart; a size and depth are asked of tuples and lists -/
def toPy : D → PyData
  | .non => .none
  | .bl b => .bool b
  | .int i => .int i
  | .str x => .str x
  | .tup ds => .tuple (toPys ds)
  | .lst ds => .list (toPys ds)
  | .dic _ => .dict []
  | .scr ds => .list (toPys ds)
  | .adr _ => .dict []
  | .gl _ _ => .dict []
where toPys : List D → List PyData
  | [] => []
  | d :: ds => toPy d :: toPys ds
def atomV : D → Option L2.V
  | .non => some .non
  | .bl b => some (.bl b)
  | .int i => some (.int i)
  | .str x => some (.str x)
  | _ => none
def eqDeep (x y : D) : Option Bool := if SeqAt.shaped (toPy x) = true ∧ SeqAt.shaped (toPy y) = true then some (PyData.eqv (toPy x) (toPy y)) else none
def eqD (x y : D) : Option Bool := match atomV x, atomV y with
  | some a, some b => if L2.scal a b = true then some (decide (a = b)) else eqDeep x y
  | _, _ => eqDeep x y
theorem eqD_int (i j : Int) : eqD (.int i) (.int j) = some (decide (i = j)) := by simp [eqD, atomV, L2.scal]
theorem eqD_str (i j : Str) : eqD (.str i) (.str j) = some (decide (i = j)) := by simp [eqD, atomV, L2.scal]
theorem eqD_bl (i j : Bool) : eqD (.bl i) (.bl j) = some (decide (i = j)) := by simp [eqD, atomV, L2.scal]
def flatD : D → Bool
  | .non => true
  | .bl _ => true
  | .int _ => true
  | .str _ => true
  | _ => false
def eqF (x y : D) : Bool := match x, y with
  | .non, .non => true
  | .bl a, .bl b => a == b
  | .bl a, .int b => (if a then 1 else 0) == b
  | .int a, .bl b => a == (if b then 1 else 0)
  | .int a, .int b => a == b
  | .str a, .str b => a == b
  | _, _ => false
def inD (x y : D) : Option Bool := match y with
  | .lst ys => if flatD x && ys.all flatD then some (ys.any fun z => eqF z x) else none
  | .tup ys => if flatD x && ys.all flatD then some (ys.any fun z => eqF z x) else none
  | .str z => match x with
    | .str y => some (!(Builtin.Str.occurrences z y 0 z.length 1).isEmpty)
    | _ => none
  | _ => none
def intsOf : List D → Option (List Int)
  | [] => some []
  | .int i :: r => (intsOf r).map (i :: ·)
  | _ => none
def blsOf : List D → Option (List Bool)
  | [] => some []
  | .bl i :: r => (blsOf r).map (i :: ·)
  | _ => none
def strsOf : List D → Option (List Str)
  | [] => some []
  | .str i :: r => (strsOf r).map (i :: ·)
  | _ => none
def ltD (x y : D) : Option Bool := match x, y with
  | .int i, .int j => some (decide (i < j))
  | .str i, .str j => some (decide (i.cps.toList < j.cps.toList))
  | .tup xs, .tup ys => (intsOf xs).bind fun a => (intsOf ys).bind fun b => some (HT.lexLt a b)
  | _, _ => none
def leD (x y : D) : Option Bool := match x, y with
  | .int i, .int j => some (decide (i ≤ j))
  | .str i, .str j => some (!decide (j.cps.toList < i.cps.toList))
  | _, _ => none
def gtD (x y : D) : Option Bool := match x, y with
  | .int i, .int j => some (decide (j < i))
  | .str i, .str j => some (decide (j.cps.toList < i.cps.toList))
  | _, _ => none
def geD (x y : D) : Option Bool := match x, y with
  | .int i, .int j => some (decide (j ≤ i))
  | .str i, .str j => some (!decide (i.cps.toList < j.cps.toList))
  | _, _ => none
def isN : D → Bool
  | .non => true
  | _ => false
def isB (x : D) (b : Bool) : Bool := match x with
  | .bl a => decide (a = b)
  | _ => false
def cmpD (op : CmpOp) (x y : D) : Option Bool := match op with
  | .Eq => eqD x y
  | .NotEq => (eqD x y).map (!·)
  | .Lt => ltD x y
  | .LtE => leD x y
  | .Gt => gtD x y
  | .GtE => geD x y
  | .Is => match y with
    | .non => some (isN x)
    | .bl b => some (isB x b)
    | _ => none
  | .IsNot => match y with
    | .non => some (!isN x)
    | .bl b => some (!isB x b)
    | _ => none
  | .In => inD x y
  | .NotIn => (inD x y).map (!·)
def ixD (x i : D) : Option D := match x, i with
  | .lst xs, .int k => L2.atI xs k
  | .tup xs, .int k => L2.atI xs k
  | .scr xs, .int k => L2.atI xs k
  | .gl _ xs, .int k => L2.atI xs k
  | .str z, .int k => if z.length ≤ Line then (L2.atI z.cps.toList k).map fun c => .str ⟨#[c]⟩ else none
  | _, _ => none
def cutD {α : Type} (xs : List α) (lo hi : Option Int) : List α := (xs.drop (HT.sIx xs.length 0 lo)).take (HT.sIx xs.length xs.length hi - HT.sIx xs.length 0 lo)
def slD (x : D) (lo hi : Option Int) : Option A := match x with
  | .lst xs => some (.fr (.lst (cutD xs lo hi)))
  | .tup xs => some (.d (.tup (cutD xs lo hi)))
  | .str z => if z.length ≤ Line then some (.d (.str (L2.cutS z lo hi))) else none
  | _ => none
def truD : D → Option Bool
  | .non => some false
  | .bl b => some b
  | .int i => some (i != 0)
  | .str y => if y.length ≤ Line then some ((y.length : Int) != 0) else none
  | .tup xs => some (!xs.isEmpty)
  | .lst xs => some (!xs.isEmpty)
  | .dic kvs => some (!kvs.isEmpty)
  | .scr xs => some (!xs.isEmpty)
  | .adr _ => none
  | .gl _ _ => none
/-- isinstance by a built-in type: int 0, bool 1, str 2, tuple 3, list 4, dict 5 -/
def isiD (x : D) (t : Nat) : Bool := match x, t with
  | .int _, 0 => true
  | .bl _, 0 => true
  | .bl _, 1 => true
  | .str _, 2 => true
  | .tup _, 3 => true
  | .lst _, 4 => true
  | .dic _, 5 => true
  | .scr _, 4 => true
  | .adr _, 4 => true
  | .gl _ _, 4 => true
  | _, _ => false
def isiO (x : D) (t : Nat) : Option Bool := match x with
  | .adr _ => none
  | .gl _ _ => none
  | x => some (isiD x t)
def maxOf : List Int → Option A
  | [] => none
  | i :: r => some (.d (.int (r.foldl max i)))
def minOf : List Int → Option A
  | [] => none
  | i :: r => some (.d (.int (r.foldl min i)))
def lenD : List D → Option A
  | [.lst xs] => some (.d (.int xs.length))
  | [.tup xs] => some (.d (.int xs.length))
  | [.scr xs] => some (.d (.int xs.length))
  | [.gl _ xs] => some (.d (.int xs.length))
  | [.str z] => if z.length ≤ Line then some (.d (.int z.length)) else none
  | _ => none
def tupleD : List D → Option A
  | [.lst xs] => some (.d (.tup xs))
  | [.tup xs] => some (.d (.tup xs))
  | [.scr xs] => some (.d (.tup xs))
  | _ => none
def listD : List D → Option A
  | [.lst xs] => some (.fr (.lst xs))
  | [.tup xs] => some (.fr (.lst xs))
  | [.scr xs] => some (.fr (.lst xs))
  | _ => none
def allD : List D → Option A
  | [.lst xs] => (blsOf xs).map fun bs => .d (.bl (bs.all id))
  | _ => none
def anyD : List D → Option A
  | [.lst xs] => (blsOf xs).map fun bs => .d (.bl (bs.any id))
  | _ => none
def sumD : List D → Option A
  | [.lst xs] => (intsOf xs).map fun is => .d (.int is.sum)
  | _ => none
def intD : List D → Option A
  | [.int i] => some (.d (.int i))
  | [.bl k] => some (.d (.int (if k then 1 else 0)))
  | _ => none
def absD : List D → Option A
  | [.int i] => some (.d (.int (if i < 0 then -i else i)))
  | _ => none
def maxD : List D → Option A
  | [.int i, .int j] => some (.d (.int (if j > i then j else i)))
  | [.lst xs] => (intsOf xs).bind maxOf
  | _ => none
def minD : List D → Option A
  | [.int i, .int j] => some (.d (.int (if j < i then j else i)))
  | [.lst xs] => (intsOf xs).bind minOf
  | _ => none
def strD : List D → Option A
  | [.int i] => if i.natAbs.log2 < 1920 then some (.d (.str (Str.ofString (toString i)))) else none
  | _ => none
/-- built-ins: len 0, tuple 1, list 2, all 3, any 4, sum 5, int 6, abs 7, max 8, min 9, str 10 -/
def biD (b : Nat) (xs : List D) : Option A := match b with
  | 0 => lenD xs
  | 1 => tupleD xs
  | 2 => listD xs
  | 3 => allD xs
  | 4 => anyD xs
  | 5 => sumD xs
  | 6 => intD xs
  | 7 => absD xs
  | 8 => maxD xs
  | 9 => minD xs
  | 10 => strD xs
  | _ => none
def joinD (o e : D) : Option A := match o, e with
  | .str a, .lst xs => (strsOf xs).bind fun ys => if (ys.map (·.length)).sum + ys.length * a.length ≤ 16777216 then some (.d (.str (Txt.join a ys))) else none
  | .str a, .tup xs => (strsOf xs).bind fun ys => if (ys.map (·.length)).sum + ys.length * a.length ≤ 16777216 then some (.d (.str (Txt.join a ys))) else none
  | _, _ => none
def sindexD (o e : D) : Option A := match o, e with
  | .str a, .str b => (Txt.index0 a b).map fun k => .d (.int (k : Nat))
  | _, _ => none
/-- methods with one argument: str.join 0, str.index 1 -/
def mt1D (m : Nat) (o e : D) : Option A := match m with
  | 0 => joinD o e
  | 1 => sindexD o e
  | _ => none
def itemsOf : D → Option (List D)
  | .lst xs => some xs
  | .tup xs => some xs
  | .scr xs => some xs
  | .str z => some (z.cps.toList.map fun c => .str ⟨#[c]⟩)
  | _ => none
def zipD (x y : D) : Option (List D) := match x, y with
  | .lst xs, .lst ys => some (List.zipWith (fun a b => .tup [a, b]) xs ys)
  | .tup xs, .tup ys => some (List.zipWith (fun a b => .tup [a, b]) xs ys)
  | _, _ => none
def enumL : Nat → List D → List D
  | _, [] => []
  | n, x :: xs => .tup [.int n, x] :: enumL (n + 1) xs
def enumD : D → Option (List D)
  | .lst xs => some (enumL 0 xs)
  | .scr xs => some (enumL 0 xs)
  | _ => none
def rng3D (i j c : Int) : List D := (List.range (Builtin.Range.rangeSize i j c).toNat).map fun (k : Nat) => .int (i + k * c)
def rng3Ok (i j c : Int) : Bool := !decide (c = 0) && decide (c.natAbs < 1073741824) && Builtin.Range.small i j c && decide (0 ≤ Builtin.Range.rangeSize i j c)
def rngD (lo hi : Int) : List D := (List.range (hi - lo).toNat).map fun (k : Nat) => .int (lo + k)

/-! ### targets -/
/-- a name is stored: a lent or a walked object's slot is never stored -/
def setW (ρ : Env) (i : Nat) (w : W) : Option Env := match ρ[i]? with
  | some (.bor _) => none
  | some (.lck _) => none
  | some _ => some (ρ.set i w)
  | none => none
mutual
def tgD : Tg → D → Env → Option Env
  | .name i, x, ρ => setW ρ i (.dat x)
  | .tup ts, .tup xs, ρ => tgsD ts xs ρ
  | .tup _, _, _ => none
def tgsD : Tgs → List D → Env → Option Env
  | .nil, [], ρ => some ρ
  | .cons t r, x :: xs, ρ => (tgD t x ρ).bind fun ρ' => tgsD r xs ρ'
  | _, _, _ => none
end

/-! ### what a code yields; φ: what calls yield -/
abbrev Phi := Nat → List W → CO
/-- an argument: data, or the object at a slot, lent -/
inductive Ag where
  | d (x : D) | pl (k : Nat)
def argG (m : Bool) (a : A) (ρ : Env) : R Ag := match m with
  | true => match a with
    | .pl i => .ok (.pl i) ρ
    | _ => .stuck
  | false => (a.frz ρ).bind fun d ρ => .ok (.d d) ρ
/-- as it is handed in -/
def agW (ρ : Env) : Ag → Option W
  | .d x => some (.dat x)
  | .pl k => match ρ[k]? with
    | some (.own d) => some (.bor d)
    | some (.bor d) => some (.bor d)
    | _ => none
def agsW (ρ : Env) : List Ag → Option (List W)
  | [] => some []
  | g :: r => (agW ρ g).bind fun w => (agsW ρ r).map (w :: ·)
/-- what the lent objects hold behind a call -/
def backW (ρ : Env) (k : Nat) (w : W) : Option Env := match ρ[k]?, w with
  | some (.own _), .bor d => some (ρ.set k (.own d))
  | some (.bor _), .bor d => some (ρ.set k (.bor d))
  | _, _ => none
def backs (ρ : Env) : List Ag → List W → Option Env
  | [], [] => some ρ
  | .d _ :: r, _ :: ws => backs ρ r ws
  | .pl k :: r, w :: ws => (backW ρ k w).bind fun ρ => backs ρ r ws
  | _, _ => none
def lents : List Ag → List Nat
  | [] => []
  | .d _ :: r => lents r
  | .pl k :: r => k :: lents r
def lockW (ρ : Env) (a : A) : Option (Env × (Env → Env)) := match a with
  | .pl i => match ρ[i]? with
    | some (.own d) => some (ρ.set i (.lck d), fun ρ => ρ.set i (.own d))
    | some (.bor d) => some (ρ.set i (.lck d), fun ρ => ρ.set i (.bor d))
    | some (.lck _) => some (ρ, id)
    | some (.dat _) => some (ρ, id)
    | _ => none
  | _ => some (ρ, id)
def rngOk (lo hi : Int) : Bool := decide (lo.natAbs < 4611686018427387904) && decide (hi.natAbs < 4611686018427387904)
theorem rngOk_says {lo hi : Int} (h : rngOk lo hi = true) : -(2 ^ 62) ≤ lo ∧ lo < 2 ^ 62 ∧ -(2 ^ 62) ≤ hi ∧ hi < 2 ^ 62 := by
  unfold rngOk at h
  simp only [Bool.and_eq_true, decide_eq_true_eq] at h
  omega
def wipeW (ρ : Env) : List Nat → Env
  | [] => ρ
  | v :: vs => (wipeW ρ vs).set v .un
/-- the comprehension's names again as they were -/
def backV (ρ0 ρ : Env) : List Nat → Env
  | [] => ρ
  | v :: vs => (backV ρ0 ρ vs).set v (ρ0.getD v .un)
def plainVs (ρ : Env) (vs : List Nat) : Bool := vs.all fun v => match ρ[v]? with
  | some .un => true
  | some (.dat _) => true
  | _ => false

/-- a name that stands for the list in slot g -/
def glL (ρ : Env) (c g : Nat) : Option (List D) := match ρ[c]?, ρ[g]? with
  | some (.dat (.adr b)), some (.own (.gl b' ds)) => if b = b' then some ds else none
  | some (.dat (.adr b)), some (.bor (.gl b' ds)) => if b = b' then some ds else none
  | _, _ => none
def putG (ρ : Env) (g : Nat) (ds : List D) : Env := match ρ[g]? with
  | some (.own (.gl b _)) => ρ.set g (.own (.gl b ds))
  | some (.bor (.gl b _)) => ρ.set g (.bor (.gl b ds))
  | _ => ρ
def setG (ρ : Env) (g b : Nat) (ds : List D) : Option Env := match ρ[g]? with
  | some .un => some (ρ.set g (.own (.gl b ds)))
  | _ => none
/-- a call with arguments -/
def callG (φ : Phi) (f : Nat) (gs : List Ag) (ρ : Env) : R A :=
  if (lents gs).Nodup then match agsW ρ gs with
    | none => .stuck
    | some ws => match φ f ws with
      | .ok a vs => (R.of (backs ρ gs vs) ρ).bind fun ρ' _ => .ok a ρ'
      | .exc x vs => (R.of (backs ρ gs vs) ρ).bind fun ρ' _ => .exc x ρ'
      | .stuck => .stuck
      | .any _ => .stuck
  else .stuck
/-- the turns of a comprehension -/
def lcGo (elt : Env → R A) (tg : Tg) (c : Env → R Bool) (vs : List Nat) : List D → Env → List D → R (List D)
  | [], ρ, acc => .ok acc ρ
  | x :: xs, ρ, acc => match tgD tg x ρ with
    | none => .stuck
    | some ρ => (c ρ).bind fun k ρ =>
      if k then (elt ρ).bind fun y ρ => (y.frz ρ).bind fun d ρ => if acc.length < Line then lcGo elt tg c vs xs (wipeW ρ vs) (acc ++ [d]) else .stuck
      else lcGo elt tg c vs xs (wipeW ρ vs) acc
mutual
def ev (φ : Phi) : E → Env → R A
  | .var i, ρ => match ρ[i]? with
    | some (.dat d) => .ok (.d d) ρ
    | some (.own _) => .ok (.pl i) ρ
    | some (.bor _) => .ok (.pl i) ρ
    | some (.lck _) => .ok (.pl i) ρ
    | _ => .stuck
  | .cst d, ρ => .ok (.d d) ρ
  | .tup es, ρ => (evs φ es ρ).bind fun ds ρ => if ds.length ≤ Line then .ok (.d (.tup ds)) ρ else .stuck
  | .lst es, ρ => (evs φ es ρ).bind fun ds ρ => if ds.length ≤ Line then .ok (.fr (.lst ds)) ρ else .stuck
  | .bin op a b, ρ => (ev φ a ρ).bind fun x ρ => (ev φ b ρ).bind fun y ρ => R.of ((x.get ρ).bind fun dx => (y.get ρ).bind fun dy => binD op dx dy) ρ
  | .neg a, ρ => (ev φ a ρ).bind fun x ρ => match x.get ρ with
    | some (.int i) => .ok (.d (.int (-i))) ρ
    | _ => .stuck
  | .cmp op a b, ρ => (ev φ a ρ).bind fun x ρ => (ev φ b ρ).bind fun y ρ => R.of (((x.get ρ).bind fun dx => (y.get ρ).bind fun dy => cmpD op dx dy).map fun k => .d (.bl k)) ρ
  | .cmp2 op1 op2 a b c, ρ => (ev φ a ρ).bind fun x ρ => (ev φ b ρ).bind fun y ρ => match (x.get ρ).bind fun dx => (y.get ρ).bind fun dy => cmpD op1 dx dy with
    | some true => (ev φ c ρ).bind fun z ρ => R.of (((y.get ρ).bind fun dy => (z.get ρ).bind fun dz => cmpD op2 dy dz).map fun k => .d (.bl k)) ρ
    | some false => .ok (.d (.bl false)) ρ
    | none => .stuck
  | .and a b, ρ => (ev φ a ρ).bind fun x ρ => match x with
    | .d (.bl true) => ev φ b ρ
    | .d (.bl false) => .ok (.d (.bl false)) ρ
    | _ => .stuck
  | .or a b, ρ => (ev φ a ρ).bind fun x ρ => match x with
    | .d (.bl false) => ev φ b ρ
    | .d (.bl true) => .ok (.d (.bl true)) ρ
    | _ => .stuck
  | .not a, ρ => (ev φ a ρ).bind fun x ρ => match x with
    | .d (.bl k) => .ok (.d (.bl (!k))) ρ
    | _ => .stuck
  | .ife c a b, ρ => (evT φ c ρ).bind fun k ρ => if k then ev φ a ρ else ev φ b ρ
  | .ix a i, ρ => (ev φ a ρ).bind fun x ρ => (ev φ i ρ).bind fun y ρ => R.of (((x.get ρ).bind fun dx => (y.get ρ).bind fun dy => ixD dx dy).map .d) ρ
  | .sl a lo hi, ρ => (ev φ a ρ).bind fun x ρ => (evO φ lo ρ).bind fun l ρ => (evO φ hi ρ).bind fun h ρ => R.of ((x.get ρ).bind fun dx => slD dx l h) ρ
  | .call f es, ρ => (evL φ es ρ).bind fun gs ρ => callG φ f gs ρ
  | .bi b es, ρ => (evG φ es ρ).bind fun xs ρ => R.of ((getsA xs ρ).bind (biD b)) ρ
  | .isi a t, ρ => (ev φ a ρ).bind fun x ρ => R.of ((x.get ρ).bind fun d => (isiO d t).map fun k => .d (.bl k)) ρ
  | .mt0 _ _, _ => .stuck
  | .mt1 m o e, ρ => (ev φ o ρ).bind fun x ρ => match x with
    | .d (.str s) => (ev φ e ρ).bind fun y ρ => R.of ((y.get ρ).bind fun dy => mt1D m (.str s) dy) ρ
    | _ => .stuck
  | .lc elt tg it c vs, ρ => (evI φ it ρ).bind fun p ρ => match lockW ρ p.1 with
    | some (ρ1, un) => if plainVs ρ1 vs then match lcGo (ev φ elt) tg (evT φ c) vs p.2 (wipeW ρ1 vs) [] with
        | .ok ds ρ2 => .ok (.fr (.lst ds)) (un (backV ρ1 ρ2 vs))
        | _ => .stuck
      else .stuck
    | none => .stuck
  | .ali c g, ρ => match glL ρ c g with
    | some _ => .ok (.pl g) ρ
    | none => .stuck
  | .mkT a b, ρ => (ev φ a ρ).bind fun x ρ => match x with
    | .fr (.lst ds) => (ev φ b ρ).bind fun y ρ => (y.frz ρ).bind fun s ρ => .ok (.ft ds s) ρ
    | _ => .stuck
  | .callT f es g, ρ => (evL φ es ρ).bind fun gs ρ => callG φ f (gs ++ [.pl g]) ρ
  | .no, _ => .stuck
/-- as a test -/
def evT (φ : Phi) : T → Env → R Bool
  | .yes, ρ => .ok true ρ
  | .not a, ρ => (evT φ a ρ).bind fun k ρ => .ok (!k) ρ
  | .and a b, ρ => (evT φ a ρ).bind fun k ρ => if k then evT φ b ρ else .ok false ρ
  | .or a b, ρ => (evT φ a ρ).bind fun k ρ => if k then .ok true ρ else evT φ b ρ
  | .ife c a b, ρ => (evT φ c ρ).bind fun k ρ => if k then evT φ a ρ else evT φ b ρ
  | .val e, ρ => (ev φ e ρ).bind fun x ρ => R.of ((x.get ρ).bind truD) ρ
/-- items as data -/
def evs (φ : Phi) : Es → Env → R (List D)
  | .nil, ρ => .ok [] ρ
  | .cons _ e r, ρ => (ev φ e ρ).bind fun x ρ => (x.frz ρ).bind fun d ρ => (evs φ r ρ).bind fun ds ρ => .ok (d :: ds) ρ
/-- arguments -/
def evL (φ : Phi) : Es → Env → R (List Ag)
  | .nil, ρ => .ok [] ρ
  | .cons m e r, ρ => (ev φ e ρ).bind fun x ρ => (argG m x ρ).bind fun g ρ => (evL φ r ρ).bind fun gs ρ => .ok (g :: gs) ρ
/-- arguments of built-ins -/
def evG (φ : Phi) : Es → Env → R (List A)
  | .nil, ρ => .ok [] ρ
  | .cons _ e r, ρ => (ev φ e ρ).bind fun x ρ => (evG φ r ρ).bind fun xs ρ => .ok (x :: xs) ρ
/-- values that are stored at once: new objects stay new -/
def evM (φ : Phi) : Es → Env → R (List A)
  | .nil, ρ => .ok [] ρ
  | .cons _ e r, ρ => (ev φ e ρ).bind fun x ρ => (thaw x ρ).bind fun x ρ => (evM φ r ρ).bind fun xs ρ => .ok (x :: xs) ρ
def evO (φ : Phi) : Eo → Env → R (Option Int)
  | .no, ρ => .ok none ρ
  | .so e, ρ => (ev φ e ρ).bind fun x ρ => match x with
    | .d (.int i) => .ok (some i) ρ
    | _ => .stuck
/-- what is walked: its object, the items -/
def evI (φ : Phi) : It → Env → R (A × List D)
  | .ex e, ρ => (ev φ e ρ).bind fun x ρ => R.of (((x.get ρ).bind itemsOf).map fun ds => (x, ds)) ρ
  | .rng1 a, ρ => (ev φ a ρ).bind fun x ρ => match x with
    | .d (.int j) => if rngOk 0 j then .ok (.d .non, rngD 0 j) ρ else .stuck
    | _ => .stuck
  | .rng2 a b, ρ => (ev φ a ρ).bind fun x ρ => (ev φ b ρ).bind fun y ρ => match x, y with
    | .d (.int i), .d (.int j) => if rngOk i j then .ok (.d .non, rngD i j) ρ else .stuck
    | _, _ => .stuck
  | .zip a b, ρ => (ev φ a ρ).bind fun x ρ => (x.frz ρ).bind fun x ρ => (ev φ b ρ).bind fun y ρ => (y.frz ρ).bind fun y ρ => R.of ((zipD x y).map fun l => (.d .non, l)) ρ
  | .enm a, ρ => (ev φ a ρ).bind fun x ρ => (x.frz ρ).bind fun x ρ => R.of ((enumD x).map fun l => (.d .non, l)) ρ
  | .rng3 a b c, ρ => (ev φ a ρ).bind fun x ρ => (ev φ b ρ).bind fun y ρ => (ev φ c ρ).bind fun z ρ => match x, y, z with
    | .d (.int i), .d (.int j), .d (.int c) => if rng3Ok i j c then .ok (.d .non, rng3D i j c) ρ else .stuck
    | _, _, _ => .stuck
end

/-! ### statements -/
/-- name = value -/
def asgA (ρ : Env) (i : Nat) (a : A) : R Unit := match a with
  | .d x => R.of (setW ρ i (.dat x)) ρ |>.bind fun ρ _ => .ok () ρ
  | .fr x => R.of (setW ρ i (.own x)) ρ |>.bind fun ρ _ => .ok () ρ
  | .pl j => (A.frz (.pl j) ρ).bind fun x ρ => R.of (setW ρ i (.dat x)) ρ |>.bind fun ρ _ => .ok () ρ
  | .ft _ _ => .stuck
def asgs : List Nat → List A → Env → Option Env
  | [], [], ρ => some ρ
  | i :: is, .d x :: as, ρ => (setW ρ i (.dat x)).bind (asgs is as)
  | i :: is, .fr x :: as, ρ => (setW ρ i (.own x)).bind (asgs is as)
  | _, _, _ => none
def FR.of {α : Type} (r : R α) (f : α → Env → FR) : FR := match r with
  | .ok a ρ => f a ρ
  | .exc x ρ => .exc x ρ
  | .stuck => .stuck
@[simp] theorem FR.of_ok {α : Type} (a : α) (ρ : Env) (f : α → Env → FR) : FR.of (R.ok a ρ) f = f a ρ := rfl
@[simp] theorem FR.of_exc {α : Type} (x : Ex) (ρ : Env) (f : α → Env → FR) : FR.of (R.exc x ρ : R α) f = .exc x ρ := rfl
@[simp] theorem FR.of_stuck {α : Type} (f : α → Env → FR) : FR.of (R.stuck : R α) f = .stuck := rfl
def FR.seq (r : FR) (f : Env → FR) : FR := match r with
  | .next ρ => f ρ
  | .ret a ρ => .ret a ρ
  | .brk ρ => .brk ρ
  | .cont ρ => .cont ρ
  | .exc x ρ => .exc x ρ
  | .stuck => .stuck
  | .any g => .any fun b => (g b).seq f
/-- a while: the turns are counted down from a great number -/
def whGo (c : Env → R Bool) (b : Env → FR) : Nat → Env → FR
  | 0, _ => .stuck
  | n + 1, ρ => FR.of (c ρ) fun k ρ => if k then match b ρ with
      | .next ρ => whGo c b n ρ
      | .cont ρ => whGo c b n ρ
      | .brk ρ => .next ρ
      | .ret a ρ => .ret a ρ
      | .exc x ρ => .exc x ρ
      | .stuck => .stuck
      | .any _ => .stuck
    else .next ρ
def forGo (t : Tg) (b : Env → FR) : List D → Env → FR
  | [], ρ => .next ρ
  | x :: xs, ρ => match tgD t x ρ with
    | none => .stuck
    | some ρ => match b ρ with
      | .next ρ => forGo t b xs ρ
      | .cont ρ => forGo t b xs ρ
      | .brk ρ => .next ρ
      | .ret a ρ => .ret a ρ
      | .exc x ρ => .exc x ρ
      | .stuck => .stuck
      | .any _ => .stuck
def FR.un (r : FR) (u : Env → Env) : FR := match r with
  | .next ρ => .next (u ρ)
  | .ret a ρ => .ret a (u ρ)
  | .brk ρ => .brk (u ρ)
  | .cont ρ => .cont (u ρ)
  | .exc x ρ => .exc x (u ρ)
  | .stuck => .stuck
  | .any _ => .stuck
def WF : Nat := 2 ^ 40
/-- a list that may be changed -/
def ownL (ρ : Env) (i : Nat) : Option (List D) := match ρ[i]? with
  | some (.own (.lst ds)) => some ds
  | some (.bor (.lst ds)) => some ds
  | _ => none
def putL (ρ : Env) (i : Nat) (ds : List D) : Env := match ρ[i]? with
  | some (.own _) => ρ.set i (.own (.lst ds))
  | some (.bor _) => ρ.set i (.bor (.lst ds))
  | _ => ρ
def augD (op : Operator) (x y : D) : Option D := match x, y with
  | .int i, .int j => match op with
    | .Add => some (.int (i + j))
    | .Sub => some (.int (i - j))
    | .Mult => if (-(2 ^ 64) < i ∧ i < 2 ^ 64) ∨ (-(2 ^ 64) < j ∧ j < 2 ^ 64) then some (.int (i * j)) else none
    | .FloorDiv => if 0 < j ∧ j < 1073741824 then some (.int (i / j)) else none
    | .Mod => if 0 < j then some (.int (i % j)) else none
    | _ => none
  | _, _ => none
def HI.val (x : Ex) : HI → D
  | .cst d => d
  | .plc => x.place
  | .nam => .str x.nm
def HE.val (x : Ex) : HE → D
  | .one h => h.val x
  | .tup hs => .tup (hs.map (HI.val x))
  | .isv a _ => a.val x
def runSu (su : Su) (x : Ex) (ρ : Env) : FR := match su with
  | .ret h => .ret (.d (h.val x)) ρ
  | .retIs h => .ret (.d (h.val x)) ρ
  | .pass => .next ρ
  | .app i h => match ownL ρ i with
    | some ds => if ds.length < Line then .next (putL ρ i (ds ++ [h.val x])) else .stuck
    | none => .stuck
/-- is a class named by an except clause one of an error of a class? -/
def clsB (c k : Nat) : Bool := c == 0 || c == k
def pick (x : Ex) (ρ : Env) : List (Nat × Su) → FR
  | [] => .exc x ρ
  | (c, su) :: r => if clsB c x.cls then runSu su x ρ else pick x ρ r
def tryX (r : FR) (f : Ex → Env → FR) : FR := match r with
  | .exc x ρ => f x ρ
  | .any _ => .stuck
  | r => r
def asX (c i : Nat) (su : Su) (x : Ex) (ρ : Env) : FR := if clsB c x.cls then match ρ[i]? with
    | some .un => runSu su x ρ
    | _ => .stuck
  else .exc x ρ
mutual
def run (φ : Phi) : S → Env → FR
  | .asg (.name i) e, ρ => FR.of (ev φ e ρ) fun a ρ => FR.of (asgA ρ i a) fun _ ρ => .next ρ
  | .asg (.tup ts) e, ρ => FR.of (ev φ e ρ) fun a ρ => match a with
    | .d x => FR.of (R.of (tgD (.tup ts) x ρ) ρ) fun ρ _ => .next ρ
    | _ => .stuck
  | .par i j a b, ρ => FR.of (ev φ a ρ) fun x ρ => FR.of (x.frz ρ) fun x ρ => FR.of (ev φ b ρ) fun y ρ => FR.of (y.frz ρ) fun y ρ =>
      FR.of (R.of ((setW ρ i (.dat x)).bind fun ρ => setW ρ j (.dat y)) ρ) fun ρ _ => .next ρ
  | .aug i op e, ρ => match ρ[i]? with
    | some (.dat x) => FR.of (ev φ e ρ) fun y ρ => FR.of (R.of (((y.get ρ).bind fun dy => augD op x dy).bind fun z => setW ρ i (.dat z)) ρ) fun ρ _ => .next ρ
    | _ => .stuck
  | .app i e, ρ => match ownL ρ i with
    | none => .stuck
    | some _ => FR.of (ev φ e ρ) fun y ρ => FR.of (y.frz ρ) fun d ρ => match ownL ρ i with
      | some ds => if ds.length < Line then .next (putL ρ i (ds ++ [d])) else .stuck
      | none => .stuck
  | .seti i k e, ρ => FR.of (ev φ e ρ) fun y ρ => FR.of (y.frz ρ) fun d ρ => match ownL ρ i with
    | none => .stuck
    | some _ => FR.of (ev φ k ρ) fun z ρ => match z, ownL ρ i with
      | .d (.int n), some ds => match L2.ixN ds.length n with
        | some j => .next (putL ρ i (ds.set j d))
        | none => .stuck
      | _, _ => .stuck
  | .expr e, ρ => FR.of (ev φ e ρ) fun _ ρ => .next ρ
  | .iff c a b, ρ => FR.of (evT φ c ρ) fun k ρ => if k then runs φ a ρ else runs φ b ρ
  | .whl c b, ρ => whGo (evT φ c) (runs φ b) WF ρ
  | .fr t it b, ρ => FR.of (evI φ it ρ) fun p ρ => match lockW ρ p.1 with
    | none => .stuck
    | some (ρ1, un) => (forGo t (runs φ b) p.2 ρ1).un un
  | .ret e, ρ => FR.of (ev φ e ρ) fun a ρ => .ret a ρ
  | .retN, ρ => .ret (.d .non) ρ
  | .pass, ρ => .next ρ
  | .brk, ρ => .brk ρ
  | .cont, ρ => .cont ρ
  | .rse c z e, ρ => FR.of (ev φ e ρ) fun a ρ => FR.of (a.frz ρ) fun d ρ => .exc ⟨c, z, d⟩ ρ
  | .tryAs b c i su, ρ => tryX (runs φ b ρ) (asX c i su)
  | .tryM b hs, ρ => tryX (runs φ b ρ) fun x ρ => pick x ρ hs
  | .asgT i g e, ρ => FR.of (ev φ e ρ) fun a ρ => match a with
    | .ft ds s => .any fun b => FR.of (R.of ((setW ρ i (.own (.lst [.adr b, s]))).bind fun ρ => setG ρ g b ds) ρ) fun ρ _ => .next ρ
    | _ => .stuck
  | .gset c g k e, ρ => FR.of (ev φ e ρ) fun y ρ => FR.of (y.frz ρ) fun d ρ => match glL ρ c g with
    | none => .stuck
    | some _ => FR.of (ev φ k ρ) fun z ρ => match z, glL ρ c g with
      | .d (.int n), some ds => match L2.ixN ds.length n with
        | some j => .next (putG ρ g (ds.set j d))
        | none => .stuck
      | _, _ => .stuck
  | .gpop c g, ρ => match glL ρ c g with
    | some (_ :: ds) => .next (putG ρ g ds)
    | _ => .stuck
  | .no, _ => .stuck
  | .mpar is es, ρ => FR.of (evM φ es ρ) fun as ρ => FR.of (R.of (asgs is as ρ) ρ) fun ρ _ => .next ρ
def runs (φ : Phi) : Ss → Env → FR
  | .nil, ρ => .next ρ
  | .cons s r, ρ => (run φ s ρ).seq fun ρ => runs φ r ρ
end

/-! ### defs -/
structure Fn where
  np : Nat
  ns : Nat
  body : Ss
/-- what the lent objects hold; all else as it was handed in -/
def normW : List W → Env → List W
  | .bor _ :: ws, w :: ρ => w :: normW ws ρ
  | w :: ws, _ :: ρ => w :: normW ws ρ
  | ws, [] => ws
  | [], _ => []
def finA (ws : List W) (np : Nat) (a : A) (ρ : Env) : CO := match a with
  | .d x => .ok (.d x) (normW ws ρ)
  | .fr x => .ok (.fr x) (normW ws ρ)
  | .pl i => if i < np then .stuck else match ρ[i]? with
    | some (.own x) => .ok (.fr x) (normW ws ρ)
    | some (.dat x) => .ok (.d x) (normW ws ρ)
    | _ => .stuck
  | .ft ds s => .ok (.ft ds s) (normW ws ρ)
def plainWs (ws : List W) : Bool := ws.all fun w => match w with
  | .dat _ => true
  | .bor _ => true
  | _ => false
def finF (ws : List W) (np : Nat) : FR → CO
  | .next ρ => .ok (.d .non) (normW ws ρ)
  | .ret a ρ => finA ws np a ρ
  | .exc x ρ => .exc x (normW ws ρ)
  | .any f => .any fun b => finF ws np (f b)
  | _ => .stuck
def runF (φ : Phi) (fn : Fn) (ws : List W) : CO :=
  if ws.length = fn.np ∧ plainWs ws = true then finF ws fn.np (runs φ fn.body (ws ++ List.replicate (fn.ns - fn.np) .un))
  else .stuck
def callK (P : Nat → Option Fn) : Nat → Phi
  | 0, _, _ => .stuck
  | k + 1, f, ws => match P f with
    | none => .stuck
    | some fn => runF (callK P k) fn ws
end Pv

/-! Pv2: how data stand in the abstract heap; what a step leaves. -/
namespace Pv
open PySem PySem.Spec L2
open PyProof.Rows hiding St

mutual
def Rep (K : PySem.W.Frag) (F : Hp) : D → V → Prop
  | .non, v => v = .non
  | .bl b, v => v = .bl b
  | .int i, v => v = .int i
  | .str x, v => v = .str x
  | .tup ds, v => ∃ a xs, v = .ref a ∧ SqT K F a xs ∧ Reps K F ds xs
  | .lst ds, v => ∃ a xs, v = .ref a ∧ Rd F a (.lst xs) ∧ Reps K F ds xs
  | .dic _, _ => False
  | .scr ds, v => ∃ a xs, v = .ref a ∧ SqL K F a xs ∧ Reps K F ds xs
  | .adr b, v => v = .ref b
  | .gl b ds, v => ∃ xs, v = .ref b ∧ Rd F b (.lst xs) ∧ Reps K F ds xs
def Reps (K : PySem.W.Frag) (F : Hp) : List D → List V → Prop
  | [], xs => xs = []
  | d :: ds, xs => ∃ x r, xs = x :: r ∧ Rep K F d x ∧ Reps K F ds r
end
theorem Same.sqT {K : PySem.W.Frag} {H H' : Hp} {a : Addr} {xs : List V} (e : Same H H') (h : SqT K H a xs) : SqT K H' a xs := by
  rcases h with (h | ⟨o, h⟩) | h
  · exact .inl (.inl (e _ _ h))
  · exact .inl (.inr ⟨o, e _ _ h⟩)
  · exact .inr h
theorem Same.sqL {K : PySem.W.Frag} {H H' : Hp} {a : Addr} {xs : List V} (e : Same H H') (h : SqL K H a xs) : SqL K H' a xs := by
  rcases h with (h | ⟨o, h⟩) | h
  · exact .inl (.inl (e _ _ h))
  · exact .inl (.inr ⟨o, e _ _ h⟩)
  · exact .inr h
theorem Same.rd {H H' : Hp} {a : Addr} {o : HO} (e : Same H H') (h : Rd H a o) : Rd H' a o := by
  rcases h with h | ⟨u, h⟩
  · exact .inl (e _ _ h)
  · exact .inr ⟨u, e _ _ h⟩
section
variable {K : PySem.W.Frag} {F F' H H' : Hp}
mutual
theorem Rep.mono (h : Same F F') : ∀ (d : D) (v : V), Rep K F d v → Rep K F' d v
  | .non, _, r => by rw [Rep] at r ⊢; exact r
  | .bl _, _, r => by rw [Rep] at r ⊢; exact r
  | .int _, _, r => by rw [Rep] at r ⊢; exact r
  | .str _, _, r => by rw [Rep] at r ⊢; exact r
  | .tup ds, _, r => by
    rw [Rep] at r ⊢
    obtain ⟨a, xs, e, s, q⟩ := r
    exact ⟨a, xs, e, Same.sqT h s, Reps.mono h ds xs q⟩
  | .lst ds, _, r => by
    rw [Rep] at r ⊢
    obtain ⟨a, xs, e, s, q⟩ := r
    exact ⟨a, xs, e, Same.rd h s, Reps.mono h ds xs q⟩
  | .dic _, _, r => by rw [Rep] at r; exact r.elim
  | .scr ds, _, r => by
    rw [Rep] at r ⊢
    obtain ⟨a, xs, e, s, q⟩ := r
    exact ⟨a, xs, e, Same.sqL h s, Reps.mono h ds xs q⟩
  | .adr _, _, r => by rw [Rep] at r ⊢; exact r
  | .gl _ ds, _, r => by
    rw [Rep] at r ⊢
    obtain ⟨xs, e, s, q⟩ := r
    exact ⟨xs, e, Same.rd h s, Reps.mono h ds xs q⟩
theorem Reps.mono (h : Same F F') : ∀ (ds : List D) (xs : List V), Reps K F ds xs → Reps K F' ds xs
  | [], _, r => by rw [Reps] at r ⊢; exact r
  | d :: ds, _, r => by
    rw [Reps] at r ⊢
    obtain ⟨x, t, e, q, p⟩ := r
    exact ⟨x, t, e, Rep.mono h d x q, Reps.mono h ds t p⟩
end
theorem Reps.length : ∀ {ds : List D} {xs : List V}, Reps K F ds xs → ds.length = xs.length
  | [], _, r => by rw [Reps] at r; subst r; rfl
  | d :: ds, _, r => by
    rw [Reps] at r
    obtain ⟨x, t, e, q, p⟩ := r
    subst e
    simp [Reps.length p]
theorem Reps.get : ∀ {ds : List D} {xs : List V} {i : Nat} {d : D}, Reps K F ds xs → ds[i]? = some d → ∃ x, xs[i]? = some x ∧ Rep K F d x
  | [], _, _, _, _, h => by simp at h
  | d :: ds, _, 0, _, r, h => by
    rw [Reps] at r
    obtain ⟨x, t, e, q, p⟩ := r
    subst e
    simp at h
    subst h
    exact ⟨x, rfl, q⟩
  | d :: ds, _, i + 1, _, r, h => by
    rw [Reps] at r
    obtain ⟨x, t, e, q, p⟩ := r
    subst e
    exact Reps.get (i := i) p (by simpa using h)
theorem Reps.get' : ∀ {ds : List D} {xs : List V} {i : Nat} {x : V}, Reps K F ds xs → xs[i]? = some x → ∃ d, ds[i]? = some d ∧ Rep K F d x
  | [], _, _, _, r, h => by rw [Reps] at r; subst r; simp at h
  | d :: ds, _, 0, _, r, h => by
    rw [Reps] at r
    obtain ⟨x, t, e, q, p⟩ := r
    subst e
    simp at h
    subst h
    exact ⟨d, rfl, q⟩
  | d :: ds, _, i + 1, _, r, h => by
    rw [Reps] at r
    obtain ⟨x, t, e, q, p⟩ := r
    subst e
    exact Reps.get' (i := i) p (by simpa using h)
theorem Reps.append : ∀ {ds es : List D} {xs ys : List V}, Reps K F ds xs → Reps K F es ys → Reps K F (ds ++ es) (xs ++ ys)
  | [], _, _, _, r, s => by rw [Reps] at r; subst r; exact s
  | d :: ds, es, _, ys, r, s => by
    rw [Reps] at r
    obtain ⟨x, t, e, q, p⟩ := r
    subst e
    show Reps K F (d :: (ds ++ es)) (x :: (t ++ ys))
    rw [Reps]
    exact ⟨x, _, rfl, q, Reps.append p s⟩
theorem Reps.one {d : D} {x : V} (h : Rep K F d x) : Reps K F [d] [x] := by
  rw [Reps]
  exact ⟨x, [], rfl, h, by rw [Reps]⟩
theorem Reps.nil : Reps K F [] [] := by rw [Reps]
theorem Reps.cons {d : D} {x : V} {ds : List D} {xs : List V} (h : Rep K F d x) (t : Reps K F ds xs) : Reps K F (d :: ds) (x :: xs) := by
  rw [Reps]
  exact ⟨x, xs, rfl, h, t⟩
theorem Reps.take : ∀ {ds : List D} {xs : List V} (n : Nat), Reps K F ds xs → Reps K F (ds.take n) (xs.take n)
  | _, _, 0, _ => by simp; exact .nil
  | [], _, _ + 1, r => by rw [Reps] at r; subst r; exact .nil
  | d :: ds, _, n + 1, r => by
    rw [Reps] at r
    obtain ⟨x, t, e, q, p⟩ := r
    subst e
    exact .cons q (Reps.take n p)
theorem Reps.drop : ∀ {ds : List D} {xs : List V} (n : Nat), Reps K F ds xs → Reps K F (ds.drop n) (xs.drop n)
  | _, _, 0, r => r
  | [], _, _ + 1, r => by rw [Reps] at r; subst r; exact .nil
  | d :: ds, _, n + 1, r => by
    rw [Reps] at r
    obtain ⟨x, t, e, q, p⟩ := r
    subst e
    exact Reps.drop n p
theorem Reps.set {d : D} {x : V} (h : Rep K F d x) : ∀ {ds : List D} {xs : List V} (j : Nat), Reps K F ds xs → Reps K F (ds.set j d) (xs.set j x)
  | [], _, _, r => by rw [Reps] at r; subst r; exact .nil
  | d' :: ds, _, 0, r => by
    rw [Reps] at r
    obtain ⟨x', t, e, q, p⟩ := r
    subst e
    exact .cons h p
  | d' :: ds, _, j + 1, r => by
    rw [Reps] at r
    obtain ⟨x', t, e, q, p⟩ := r
    subst e
    exact .cons q (Reps.set h j p)
theorem Reps.rep : ∀ {ds : List D} {xs : List V} (n : Nat), Reps K F ds xs → Reps K F (List.flatten (List.replicate n ds)) (List.flatten (List.replicate n xs))
  | _, _, 0, _ => .nil
  | _, _, n + 1, r => by
    rw [List.replicate_succ, List.replicate_succ, List.flatten_cons, List.flatten_cons]
    exact r.append (Reps.rep n r)

/-! ### what an object at an address holds -/
def ContO (K : PySem.W.Frag) (F : Hp) (a : Addr) (d : D) (o : Option HO) : Prop := match d with
  | .lst ds => ∃ xs, o = some (.lst xs) ∧ Reps K F ds xs
  | .gl b ds => a = b ∧ ∃ xs, o = some (.lst xs) ∧ Reps K F ds xs
  | _ => False
theorem ContO.mono {a : Addr} {d : D} {o : Option HO} (h : Same F F') (c : ContO K F a d o) : ContO K F' a d o := by
  cases d with
  | lst ds =>
    obtain ⟨xs, e, r⟩ := c
    exact ⟨xs, e, r.mono h⟩
  | gl b ds =>
    obtain ⟨ea, xs, e, r⟩ := c
    exact ⟨ea, xs, e, r.mono h⟩
  | _ => exact c.elim
theorem ContO.frzd {a : Addr} {d : D} {o : Option HO} (c : ContO K F a d o) : ∃ xs, o = some (.lst xs) ∧ ∀ F', Same F F' → F' a = some (.lst xs) → Rep K F' d (.ref a) := by
  cases d with
  | lst ds =>
    obtain ⟨xs, e, r⟩ := c
    exact ⟨xs, e, fun F' h1 h2 => by rw [Rep]; exact ⟨a, xs, rfl, .inl h2, r.mono h1⟩⟩
  | gl b ds =>
    obtain ⟨rfl, xs, e, r⟩ := c
    exact ⟨xs, e, fun F' h1 h2 => by rw [Rep]; exact ⟨xs, rfl, .inl h2, r.mono h1⟩⟩
  | _ => exact c.elim
theorem ContO.some_ {a : Addr} {d : D} {o : Option HO} (c : ContO K F a d o) : o ≠ none := by
  cases d with
  | lst ds =>
    obtain ⟨xs, e, r⟩ := c
    rw [e]
    simp
  | gl b ds =>
    obtain ⟨ea, xs, e, r⟩ := c
    rw [e]
    simp
  | _ => exact c.elim

/-! ### slots -/
def Ownish (ρ : Env) (i : Nat) : Prop := ∃ d, ρ[i]? = some (.own d) ∨ ρ[i]? = some (.bor d)
def Heldish (ρ : Env) (i : Nat) : Prop := ∃ d, ρ[i]? = some (.own d) ∨ ρ[i]? = some (.bor d) ∨ ρ[i]? = some (.lck d)
def Live (ρ : Env) (i : Nat) : Prop := ∃ w, ρ[i]? = some w ∧ w ≠ .un
theorem Heldish.live {ρ : Env} {i : Nat} (h : Heldish ρ i) : Live ρ i := by
  obtain ⟨d, h | h | h⟩ := h
  · exact ⟨_, h, by simp⟩
  · exact ⟨_, h, by simp⟩
  · exact ⟨_, h, by simp⟩
theorem Ownish.held {ρ : Env} {i : Nat} (h : Ownish ρ i) : Heldish ρ i := by
  obtain ⟨d, h | h⟩ := h
  · exact ⟨d, .inl h⟩
  · exact ⟨d, .inr (.inl h)⟩
/-- an address that this code may change -/
def Own (σ : St) (ρ : Env) (a : Addr) : Prop := ∃ i, Ownish ρ i ∧ σ[i]? = some (some (.ref a))
def Hld (σ : St) (ρ : Env) (a : Addr) : Prop := ∃ i, Heldish ρ i ∧ σ[i]? = some (some (.ref a))
theorem Own.hld {σ : St} {ρ : Env} {a : Addr} (h : Own σ ρ a) : Hld σ ρ a := by
  obtain ⟨i, h1, h2⟩ := h
  exact ⟨i, h1.held, h2⟩

structure Ok (K : PySem.W.Frag) (F H : Hp) (σ : St) (ρ : Env) : Prop where
  le : Same F H
  len : ρ.length = σ.length
  dat : ∀ (i : Nat) (d : D), ρ[i]? = some (.dat d) → ∃ v, σ[i]? = some (some v) ∧ Rep K F d v
  obj : ∀ (i : Nat) (d : D), (ρ[i]? = some (.own d) ∨ ρ[i]? = some (.bor d) ∨ ρ[i]? = some (.lck d)) → ∃ a, σ[i]? = some (some (.ref a)) ∧ F a = none ∧ ContO K F a d (H a)
  inj : ∀ (i j : Nat) (a : Addr), Heldish ρ i → Heldish ρ j → σ[i]? = some (some (.ref a)) → σ[j]? = some (some (.ref a)) → i = j
theorem Ok.hld {σ : St} {ρ : Env} {a : Addr} (ok : Ok K F H σ ρ) (h : Hld σ ρ a) : F a = none ∧ H a ≠ none := by
  obtain ⟨i, ⟨d, hd⟩, e⟩ := h
  obtain ⟨b, eb, f, c⟩ := ok.obj i d hd
  rw [e] at eb
  cases eb
  exact ⟨f, c.some_⟩

/-- what a step leaves: the frozen part grows, what is not owned stays -/
structure Go (K : PySem.W.Frag) (F H : Hp) (σ : St) (ρ : Env) (F' H' : Hp) (σ' : St) (ρ' : Env) : Prop where
  ok : Ok K F' H' σ' ρ'
  grow : Same F F'
  fnew : ∀ a, F' a ≠ none → F a = none → H a = none ∨ Own σ ρ a
  frame : ∀ a o, H a = some o → ¬ Own σ ρ a → H' a = some o
  pers : ∀ a, H a ≠ none → H' a ≠ none
  sub : ∀ a, Own σ' ρ' a → Own σ ρ a ∨ H a = none
  lckF : ∀ (i : Nat) (d : D), ρ[i]? = some (.lck d) → ρ'[i]? = some (.lck d) ∧ σ'[i]? = σ[i]?
  lckB : ∀ (i : Nat) (d : D), ρ'[i]? = some (.lck d) → ρ[i]? = some (.lck d) ∧ σ'[i]? = σ[i]?
  bor : ∀ (i : Nat) (d : D), ρ[i]? = some (.bor d) → ∃ d', ρ'[i]? = some (.bor d') ∧ σ'[i]? = σ[i]?
  live : ∀ (i : Nat), Live ρ i → Live ρ' i
theorem Go.refl {σ : St} {ρ : Env} (ok : Ok K F H σ ρ) : Go K F H σ ρ F H σ ρ :=
  ⟨ok, Same.refl _, fun a h1 h2 => absurd h2 h1, fun _ _ h _ => h, fun _ h => h, fun _ h => .inl h, fun _ _ h => ⟨h, rfl⟩, fun _ _ h => ⟨h, rfl⟩, fun _ d h => ⟨d, h, rfl⟩, fun _ h => h⟩
theorem none_of_frame {σ : St} {ρ : Env} {a : Addr} (fr : ∀ a o, H a = some o → ¬ Own σ ρ a → H' a = some o) (h : H' a = none) : H a = none ∨ Own σ ρ a := by
  cases q : H a with
  | none => exact .inl rfl
  | some o =>
    by_cases w : Own σ ρ a
    · exact .inr w
    · rw [fr a o q w] at h
      cases h
theorem Go.trans {F1 H1 F2 H2 : Hp} {σ σ1 σ2 : St} {ρ ρ1 ρ2 : Env} (a : Go K F H σ ρ F1 H1 σ1 ρ1) (b : Go K F1 H1 σ1 ρ1 F2 H2 σ2 ρ2) : Go K F H σ ρ F2 H2 σ2 ρ2 where
  ok := b.ok
  grow := a.grow.trans b.grow
  fnew := fun c h1 h2 => by
    by_cases q : F1 c = none
    · rcases b.fnew c h1 q with z | z
      · exact none_of_frame a.frame z
      · rcases a.sub c z with y | y
        · exact .inr y
        · exact .inl y
    · exact a.fnew c q h2
  frame := fun c o h1 h2 => b.frame c o (a.frame c o h1 h2) fun z => by
    rcases a.sub c z with y | y
    · exact h2 y
    · rw [y] at h1
      cases h1
  pers := fun c h => b.pers c (a.pers c h)
  sub := fun c h => by
    rcases b.sub c h with z | z
    · exact a.sub c z
    · rcases none_of_frame a.frame z with y | y
      · exact .inr y
      · exact .inl y
  lckF := fun i d h => by
    obtain ⟨h1, e1⟩ := a.lckF i d h
    obtain ⟨h2, e2⟩ := b.lckF i d h1
    exact ⟨h2, e2.trans e1⟩
  lckB := fun i d h => by
    obtain ⟨h1, e1⟩ := b.lckB i d h
    obtain ⟨h2, e2⟩ := a.lckB i d h1
    exact ⟨h2, e1.trans e2⟩
  bor := fun i d h => by
    obtain ⟨d1, h1, e1⟩ := a.bor i d h
    obtain ⟨d2, h2, e2⟩ := b.bor i d1 h1
    exact ⟨d2, h2, e2.trans e1⟩
  live := fun i h => b.live i (a.live i h)

/-! ### values of expressions -/
/-- a: what v means; H0: the heap ahead (a new object is new against it) -/
def RepA (K : PySem.W.Frag) (H0 F H : Hp) (σ : St) (ρ : Env) (α : A) (v : V) : Prop := match α with
  | .d x => Rep K F x v
  | .fr x => ∃ a, v = .ref a ∧ H0 a = none ∧ F a = none ∧ ¬ Hld σ ρ a ∧ ContO K F a x (H a)
  | .pl i => σ[i]? = some (some v) ∧ Live ρ i
  | .ft ds s => ∃ a b ys u, v = .ref a ∧ H0 a = none ∧ F a = none ∧ ¬ Hld σ ρ a ∧ H a = some (.lst [.ref b, u]) ∧ Rep K F s u ∧ H0 b = none ∧ F b = none ∧ ¬ Hld σ ρ b ∧ H b = some (.lst ys) ∧ Reps K F ds ys ∧ b ≠ a
/-- v reads as d -/
def RdD (K : PySem.W.Frag) (F H : Hp) (d : D) (v : V) : Prop := Rep K F d v ∨ ∃ a, v = .ref a ∧ ContO K F a d (H a)
theorem RepA.rd {H0 : Hp} {σ : St} {ρ : Env} {α : A} {v : V} {d : D} (ok : Ok K F H σ ρ) (r : RepA K H0 F H σ ρ α v) (g : α.get ρ = some d) : RdD K F H d v := by
  cases α with
  | d x =>
    have e : x = d := Option.some.inj g
    subst e
    exact .inl r
  | fr x =>
    have e : x = d := Option.some.inj g
    subst e
    obtain ⟨a, e, _, _, _, c⟩ := r
    exact .inr ⟨a, e, c⟩
  | pl i =>
    have g' : (ρ[i]?).bind W.cont = some d := g
    obtain ⟨e, w, hw, nw⟩ := r
    rw [hw] at g'
    have held : ∀ x, (ρ[i]? = some (.own x) ∨ ρ[i]? = some (.bor x) ∨ ρ[i]? = some (.lck x)) → x = d → RdD K F H d v := fun x hx ex => by
      subst ex
      obtain ⟨a, ea, f, c⟩ := ok.obj i x hx
      rw [e] at ea
      cases ea
      exact .inr ⟨a, rfl, c⟩
    cases w with
    | un => exact absurd rfl nw
    | dat x =>
      have ex : x = d := Option.some.inj g'
      subst ex
      obtain ⟨w, ew, c⟩ := ok.dat i x hw
      rw [e] at ew
      cases ew
      exact .inl c
    | own x => exact held x (.inl hw) (Option.some.inj g')
    | bor x => exact held x (.inr (.inl hw)) (Option.some.inj g')
    | lck x => exact held x (.inr (.inr hw)) (Option.some.inj g')
  | ft ds s => cases g
theorem Go.heldB {F1 H1 : Hp} {σ σ1 : St} {ρ ρ1 : Env} {a : Addr} (g : Go K F H σ ρ F1 H1 σ1 ρ1) (h : Hld σ1 ρ1 a) : Hld σ ρ a ∨ H a = none := by
  obtain ⟨i, ⟨d, hd⟩, e⟩ := h
  rcases hd with hd | hd | hd
  · rcases g.sub a ⟨i, ⟨d, .inl hd⟩, e⟩ with z | z
    · exact .inl z.hld
    · exact .inr z
  · rcases g.sub a ⟨i, ⟨d, .inr hd⟩, e⟩ with z | z
    · exact .inl z.hld
    · exact .inr z
  · obtain ⟨h1, e1⟩ := g.lckB i d hd
    exact .inl ⟨i, ⟨d, .inr (.inr h1)⟩, by rw [← e1]; exact e⟩
theorem Go.nobody {F1 H1 : Hp} {σ : St} {ρ ρ1 : Env} {a : Addr} (g : Go K F H σ ρ F1 H1 σ ρ1) (f : F a = none) (nh : ¬ Hld σ ρ a) (c : H a ≠ none) : H1 a = H a ∧ F1 a = none ∧ ¬ Hld σ ρ1 a := by
  have no : ¬ Own σ ρ a := fun z => nh z.hld
  refine ⟨?_, ?_, fun z => ?_⟩
  · cases q : H a with
    | none => exact absurd q c
    | some o => exact g.frame a o q no
  · cases q : F1 a with
    | none => rfl
    | some o =>
      rcases g.fnew a (by rw [q]; simp) f with z | z
      · exact absurd z c
      · exact absurd z no
  · rcases g.heldB z with y | y
    · exact nh y
    · exact c y
/-- a value stays what it is through a step of the same frame that keeps the slot -/
theorem RepA.step {H0 F1 H1 : Hp} {σ : St} {ρ ρ1 : Env} {α : A} {v : V} (r : RepA K H0 F H σ ρ α v) (g : Go K F H σ ρ F1 H1 σ ρ1) : RepA K H0 F1 H1 σ ρ1 α v := by
  cases α with
  | d x => exact Rep.mono g.grow _ _ r
  | fr x =>
    obtain ⟨a, e, h0, f, nh, c⟩ := r
    have no : ¬ Own σ ρ a := fun z => nh z.hld
    have eh : H1 a = H a := by
      cases q : H a with
      | none => exact absurd q c.some_
      | some o => exact g.frame a o q no
    refine ⟨a, e, h0, ?_, fun z => ?_, ?_⟩
    · cases q : F1 a with
      | none => rfl
      | some o =>
        rcases g.fnew a (by rw [q]; simp) f with z | z
        · exact absurd z c.some_
        · exact absurd z no
    · rcases g.heldB z with y | y
      · exact nh y
      · exact c.some_ y
    · rw [eh]
      exact c.mono g.grow
  | pl i =>
    obtain ⟨e, h⟩ := r
    exact ⟨e, g.live i h⟩
  | ft ds s =>
    obtain ⟨a, b, ys, u, e, h0, f, nh, ca, rs, h0b, fb, nhb, cb, rb, ne⟩ := r
    obtain ⟨e1, f1, n1⟩ := g.nobody f nh (by rw [ca]; simp)
    obtain ⟨e2, f2, n2⟩ := g.nobody fb nhb (by rw [cb]; simp)
    exact ⟨a, b, ys, u, e, h0, f1, n1, e1.trans ca, Rep.mono g.grow _ _ rs, h0b, f2, n2, e2.trans cb, rb.mono g.grow, ne⟩
end
end Pv

/-! Pv3: the operations on data, by the layer's rules. -/
namespace Pv
open PySem PySem.Spec L2
open PyProof.Rows hiding St

/-- only new objects -/
structure Ext (F H F' H' : Hp) : Prop where
  le : Same F' H'
  grow : Same F F'
  hgrow : Same H H'
  fnew : ∀ a, F' a ≠ none → F a = none → H a = none
def NewA (K : PySem.W.Frag) (H F' H' : Hp) (γ : A) (v : V) : Prop := match γ with
  | .d x => Rep K F' x v
  | .fr x => ∃ a, v = .ref a ∧ H a = none ∧ F' a = none ∧ ContO K F' a x (H' a)
  | .pl _ => False
  | .ft _ _ => False
section
variable {K : PySem.W.Frag} {F F' H H' : Hp}
theorem Ext.refl (h : Same F H) : Ext F H F H := ⟨h, Same.refl _, Same.refl _, fun _ h1 h2 => absurd h2 h1⟩
theorem Same.upd_new {H : Hp} {p : Addr} {o : HO} (h : H p = none) : Same H (upd H p o) := fun b x e => by
  rw [upd_ne (ne_of_none e h)]
  exact e
theorem free_le (h : Same F H) {p : Addr} (e : H p = none) : F p = none := by
  cases q : F p with
  | none => rfl
  | some o => rw [h p o q] at e; cases e
/-- a new frozen object -/
theorem Ext.frozen {p : Addr} {o : HO} (h : Same F H) (e : H p = none) : Ext F H (upd F p o) (upd H p o) where
  le := fun b x q => by
    by_cases hb : b = p
    · subst hb; rw [upd_same] at q ⊢; exact q
    · rw [upd_ne hb] at q ⊢; exact h b x q
  grow := Same.upd_new (free_le h e)
  hgrow := Same.upd_new e
  fnew := fun a h1 h2 => by
    by_cases hb : a = p
    · subst hb; exact e
    · rw [upd_ne hb] at h1; exact absurd h2 h1
/-- a new object that nobody else has -/
theorem Ext.fresh {p : Addr} {o : HO} (h : Same F H) (e : H p = none) : Ext F H F (upd H p o) where
  le := fun b x q => by rw [upd_ne (ne_of_none (h b x q) e)]; exact h b x q
  grow := Same.refl _
  hgrow := Same.upd_new e
  fnew := fun a h1 h2 => absurd h2 h1
theorem Ext.go {σ : L2.St} {ρ : Env} (ok : Ok K F H σ ρ) (x : Ext F H F' H') : Go K F H σ ρ F' H' σ ρ where
  ok := {
    le := x.le
    len := ok.len
    dat := fun i d h => by
      obtain ⟨v, e, r⟩ := ok.dat i d h
      exact ⟨v, e, Rep.mono x.grow _ _ r⟩
    obj := fun i d h => by
      obtain ⟨a, e, f, c⟩ := ok.obj i d h
      refine ⟨a, e, ?_, ?_⟩
      · cases q : F' a with
        | none => rfl
        | some o => exact absurd (x.fnew a (by rw [q]; simp) f) c.some_
      · cases q : H a with
        | none => exact absurd q c.some_
        | some o => rw [x.hgrow a o q]; rw [q] at c; exact c.mono x.grow
    inj := ok.inj }
  grow := x.grow
  fnew := fun a h1 h2 => .inl (x.fnew a h1 h2)
  frame := fun a o h _ => x.hgrow a o h
  pers := fun a h => by
    cases q : H a with
    | none => exact absurd q h
    | some o => rw [x.hgrow a o q]; simp
  sub := fun a h => .inl h
  lckF := fun i d h => ⟨h, rfl⟩
  lckB := fun i d h => ⟨h, rfl⟩
  bor := fun i d h => ⟨d, h, rfl⟩
  live := fun i h => h
theorem NewA.rep {σ : L2.St} {ρ : Env} {γ : A} {v : V} (ok : Ok K F H σ ρ) (x : Ext F H F' H') (n : NewA K H F' H' γ v) : RepA K H F' H' σ ρ γ v := by
  cases γ with
  | d y => exact n
  | fr y =>
    obtain ⟨a, e, h, f, c⟩ := n
    exact ⟨a, e, h, f, fun z => (ok.hld z).2 h, c⟩
  | pl i => exact n.elim
  | ft _ _ => exact n.elim

/-! ### reading -/
theorem RdD.non {v : V} (r : RdD K F H .non v) : v = .non := by
  rcases r with r | ⟨a, _, c⟩
  · rw [Rep] at r; exact r
  · exact c.elim
theorem RdD.bl {b : Bool} {v : V} (r : RdD K F H (.bl b) v) : v = .bl b := by
  rcases r with r | ⟨a, _, c⟩
  · rw [Rep] at r; exact r
  · exact c.elim
theorem RdD.int {i : Int} {v : V} (r : RdD K F H (.int i) v) : v = .int i := by
  rcases r with r | ⟨a, _, c⟩
  · rw [Rep] at r; exact r
  · exact c.elim
theorem RdD.str {x : Str} {v : V} (r : RdD K F H (.str x) v) : v = .str x := by
  rcases r with r | ⟨a, _, c⟩
  · rw [Rep] at r; exact r
  · exact c.elim
theorem RdD.tup {ds : List D} {v : V} (h : Same F H) (r : RdD K F H (.tup ds) v) : ∃ a xs, v = .ref a ∧ SqT K H a xs ∧ Reps K F ds xs ∧ Rep K F (.tup ds) v := by
  rcases r with r | ⟨a, _, c⟩
  · have r' := r
    rw [Rep] at r
    obtain ⟨a, xs, e, s, q⟩ := r
    exact ⟨a, xs, e, Same.sqT h s, q, r'⟩
  · exact c.elim
theorem RdD.lst {ds : List D} {v : V} (h : Same F H) (r : RdD K F H (.lst ds) v) : ∃ a xs, v = .ref a ∧ Rd H a (.lst xs) ∧ Reps K F ds xs := by
  rcases r with r | ⟨a, e, c⟩
  · rw [Rep] at r
    obtain ⟨a, xs, e, s, q⟩ := r
    exact ⟨a, xs, e, Same.rd h s, q⟩
  · obtain ⟨xs, eo, q⟩ := c
    exact ⟨a, xs, e, .inl eo, q⟩
theorem RdD.scr {ds : List D} {v : V} (h : Same F H) (r : RdD K F H (.scr ds) v) : ∃ a xs, v = .ref a ∧ SqL K H a xs ∧ Reps K F ds xs := by
  rcases r with r | ⟨a, e, c⟩
  · rw [Rep] at r
    obtain ⟨a, xs, e, s, q⟩ := r
    exact ⟨a, xs, e, Same.sqL h s, q⟩
  · exact c.elim
theorem RdD.gl {b : Nat} {ds : List D} {v : V} (h : Same F H) (r : RdD K F H (.gl b ds) v) : ∃ xs, v = .ref b ∧ Rd H b (.lst xs) ∧ Reps K F ds xs := by
  rcases r with r | ⟨a, e, c⟩
  · rw [Rep] at r
    obtain ⟨xs, e, s, q⟩ := r
    exact ⟨xs, e, Same.rd h s, q⟩
  · obtain ⟨rfl, xs, eo, q⟩ := c
    exact ⟨xs, e, .inl eo, q⟩
theorem RdD.adr {b : Nat} {v : V} (r : RdD K F H (.adr b) v) : v = .ref b := by
  rcases r with r | ⟨a, _, c⟩
  · rw [Rep] at r; exact r
  · exact c.elim
theorem RdD.dic {kvs : List (D × D)} {v : V} (r : RdD K F H (.dic kvs) v) : False := by
  rcases r with r | ⟨a, _, c⟩
  · rw [Rep] at r; exact r
  · exact c.elim
theorem Rep.int_ {i : Int} : Rep K F (.int i) (.int i) := by rw [Rep]
theorem Rep.bl_ {b : Bool} : Rep K F (.bl b) (.bl b) := by rw [Rep]
theorem Rep.str_ {b : Str} : Rep K F (.str b) (.str b) := by rw [Rep]
theorem Rep.non_ : Rep K F .non .non := by rw [Rep]
theorem Rep.tup_ {a : Addr} {ds : List D} {xs : List V} (h : F a = some (.tup xs)) (r : Reps K F ds xs) : Rep K F (.tup ds) (.ref a) := by
  rw [Rep]
  exact ⟨a, xs, rfl, .inl (.inl h), r⟩
theorem NewA.int_ {i : Int} : NewA K H F H (.d (.int i)) (.int i) := by show Rep K F (.int i) (.int i); exact Rep.int_
theorem NewA.bl_ {i : Bool} : NewA K H F H (.d (.bl i)) (.bl i) := by show Rep K F (.bl i) (.bl i); exact Rep.bl_
theorem NewA.str_ {i : Str} : NewA K H F H (.d (.str i)) (.str i) := by show Rep K F (.str i) (.str i); exact Rep.str_
theorem NewA.non_ : NewA K H F H (.d .non) .non := by show Rep K F .non .non; exact Rep.non_
theorem Reps.ints : ∀ {ds : List D} {xs : List V} {is : List Int}, Reps K F ds xs → intsOf ds = some is → xs = is.map V.int
  | [], _, _, r, h => by
    rw [Reps] at r
    cases h
    exact r
  | .int i :: ds, _, is, r, h => by
    rw [Reps] at r
    obtain ⟨x, t, e, q, p⟩ := r
    have h' : (intsOf ds).map (i :: ·) = some is := h
    cases e2 : intsOf ds with
    | none => rw [e2] at h'; cases h'
    | some js =>
      rw [e2] at h'
      have e3 : i :: js = is := Option.some.inj h'
      subst e3
      rw [Rep] at q
      subst q
      rw [e, Reps.ints p e2]
      rfl
  | .non :: _, _, _, _, h => by cases h
  | .bl _ :: _, _, _, _, h => by cases h
  | .str _ :: _, _, _, _, h => by cases h
  | .tup _ :: _, _, _, _, h => by cases h
  | .lst _ :: _, _, _, _, h => by cases h
  | .dic _ :: _, _, _, _, h => by cases h
  | .scr _ :: _, _, _, _, h => by cases h
  | .adr _ :: _, _, _, _, h => by cases h
  | .gl _ _ :: _, _, _, _, h => by cases h
theorem Reps.bls : ∀ {ds : List D} {xs : List V} {is : List Bool}, Reps K F ds xs → blsOf ds = some is → xs = is.map V.bl
  | [], _, _, r, h => by
    rw [Reps] at r
    cases h
    exact r
  | .bl i :: ds, _, is, r, h => by
    rw [Reps] at r
    obtain ⟨x, t, e, q, p⟩ := r
    have h' : (blsOf ds).map (i :: ·) = some is := h
    cases e2 : blsOf ds with
    | none => rw [e2] at h'; cases h'
    | some js =>
      rw [e2] at h'
      have e3 : i :: js = is := Option.some.inj h'
      subst e3
      rw [Rep] at q
      subst q
      rw [e, Reps.bls p e2]
      rfl
  | .non :: _, _, _, _, h => by cases h
  | .int _ :: _, _, _, _, h => by cases h
  | .str _ :: _, _, _, _, h => by cases h
  | .tup _ :: _, _, _, _, h => by cases h
  | .lst _ :: _, _, _, _, h => by cases h
  | .dic _ :: _, _, _, _, h => by cases h
  | .scr _ :: _, _, _, _, h => by cases h
  | .adr _ :: _, _, _, _, h => by cases h
  | .gl _ _ :: _, _, _, _, h => by cases h
theorem Reps.strs : ∀ {ds : List D} {xs : List V} {is : List Str}, Reps K F ds xs → strsOf ds = some is → xs = is.map V.str
  | [], _, _, r, h => by
    rw [Reps] at r
    cases h
    exact r
  | .str i :: ds, _, is, r, h => by
    rw [Reps] at r
    obtain ⟨x, t, e, q, p⟩ := r
    have h' : (strsOf ds).map (i :: ·) = some is := h
    cases e2 : strsOf ds with
    | none => rw [e2] at h'; cases h'
    | some js =>
      rw [e2] at h'
      have e3 : i :: js = is := Option.some.inj h'
      subst e3
      rw [Rep] at q
      subst q
      rw [e, Reps.strs p e2]
      rfl
  | .non :: _, _, _, _, h => by cases h
  | .int _ :: _, _, _, _, h => by cases h
  | .bl _ :: _, _, _, _, h => by cases h
  | .tup _ :: _, _, _, _, h => by cases h
  | .lst _ :: _, _, _, _, h => by cases h
  | .dic _ :: _, _, _, _, h => by cases h
  | .scr _ :: _, _, _, _, h => by cases h
  | .adr _ :: _, _, _, _, h => by cases h
  | .gl _ _ :: _, _, _, _, h => by cases h
end

/-- a two-place operation, by its data -/
def rD (K : PySem.W.Frag) (f : D → D → Option A) : R2 := fun x y H Q => ∃ F dx dy γ, Same F H ∧ RdD K F H dx x ∧ RdD K F H dy y ∧ f dx dy = some γ ∧ ∀ v F' H', Ext F H F' H' → NewA K H F' H' γ v → Q v H'
section
variable {X : Cx}
theorem Inv.lstR {pins : List (Addr × Obj)} {σ : L2.St} {H : Hp} {s : Shared} {l : Addr} {xs : List V} (I : Inv X pins σ H s) (hH : Rd H l (.lst xs)) :
    xs.length ≤ sizeLine ∧ ∃ (its : List Value) (n : Nat), Vals xs its ∧ xs.length = its.length ∧ s.heap.get? l = some { cls := .type "list", data := .seq its.toArray n } := by
  obtain ⟨z, its, n, r, e⟩ := hH.ok I.hok
  exact ⟨z, its, n, r, r.length, e⟩
theorem lineEq : (sizeLine : Nat) = Line := sizeLine_eq
theorem op_addD : OpR X (binaryOp .Add) (rD X.K (binD .Add)) := by
  intro pins s σ H x y v u Q I rx ry h
  obtain ⟨F, dx, dy, γ, le, r1, r2, hf, q⟩ := h
  have hl : (sizeLine : Nat) = 16777216 := sizeLine_eq
  cases dx with
  | int i =>
    cases dy with
    | int j =>
      obtain rfl := r1.int
      obtain rfl := r2.int
      cases hf
      exact op_add pins s σ H _ _ v u Q I rx ry ⟨i, j, rfl, rfl, q _ F H (.refl le) NewA.int_⟩
    | _ => cases hf
  | str a =>
    cases dy with
    | str b =>
      obtain rfl := r1.str
      obtain rfl := r2.str
      have hf' : (if a.length + b.length ≤ Line then some (A.d (.str (a ++ b))) else none) = some γ := hf
      by_cases hz : a.length + b.length ≤ Line
      · rw [if_pos hz] at hf'
        cases hf'
        exact op_add_str pins s σ H _ _ v u Q I rx ry ⟨a, b, rfl, rfl, by rw [hl]; exact hz, q _ F H (.refl le) NewA.str_⟩
      · rw [if_neg hz] at hf'
        cases hf'
    | _ => cases hf
  | tup xs =>
    cases dy with
    | tup ys =>
      obtain ⟨a, vs, rfl, s1, p1, w1⟩ := r1.tup le
      obtain ⟨b, ws, rfl, s2, p2, w2⟩ := r2.tup le
      have hf' : (if xs.length + ys.length ≤ Line then some (A.d (.tup (xs ++ ys))) else none) = some γ := hf
      by_cases hz : xs.length + ys.length ≤ Line
      · rw [if_pos hz] at hf'
        cases hf'
        refine op_catA pins s σ H _ _ v u Q I rx ry ⟨a, b, vs, ws, rfl, rfl, s1, s2, by rw [hl, ← p1.length, ← p2.length]; exact hz, fun e => ?_, fun e1 e2 => ?_, fun e1 e2 p hp => ?_⟩
        · subst e
          have e0 : xs = [] := List.eq_nil_of_length_eq_zero (by rw [p1.length]; rfl)
          subst e0
          exact q _ F H (.refl le) w2
        · subst e2
          have e0 : ys = [] := List.eq_nil_of_length_eq_zero (by rw [p2.length]; rfl)
          subst e0
          refine q _ F H (.refl le) ?_
          show Rep X.K F (.tup (xs ++ [])) _
          rw [List.append_nil]
          exact w1
        · exact q _ _ _ (.frozen (o := .tup (vs ++ ws)) le hp) (Rep.tup_ upd_same ((p1.append p2).mono (Same.upd_new (free_le le hp))))
      · rw [if_neg hz] at hf'
        cases hf'
    | _ => cases hf
  | lst xs =>
    cases dy with
    | lst ys =>
      obtain ⟨a, vs, rfl, s1, p1⟩ := r1.lst le
      obtain ⟨b, ws, rfl, s2, p2⟩ := r2.lst le
      have hf' : (if xs.length + ys.length ≤ Line then some (A.fr (.lst (xs ++ ys))) else none) = some γ := hf
      by_cases hz : xs.length + ys.length ≤ Line
      · rw [if_pos hz] at hf'
        cases hf'
        have hz' : vs.length + ws.length ≤ sizeLine := by rw [hl, ← p1.length, ← p2.length]; exact hz
        cases rx
        cases ry
        obtain ⟨z, its, n, r, hl1, e⟩ := Inv.lstR I s1
        obtain ⟨z2, its2, n2, r2, hl2, e2⟩ := Inv.lstR I s2
        refine PySem.P.add_list e e2 ?_ (by rw [List.size_toArray, List.size_toArray]; omega)
        have ea : its.toArray ++ its2.toArray = (its ++ its2).toArray := by simp
        rw [ea]
        have hfr := I.fresh
        exact ⟨.ref _, _, I.lnew (t' := s.toks) (r.append r2) (by rw [List.length_append]; omega), rfl, q _ _ _ (.fresh le hfr) ⟨_, rfl, hfr, free_le le hfr, _, upd_same, (p1.append p2)⟩⟩
      · rw [if_neg hz] at hf'
        cases hf'
    | _ => cases hf
  | _ => cases dy <;> cases hf
theorem op_repR : OpR X (binaryOp .Mult) (fun x y H Q => ∃ l k xs, x = .ref l ∧ y = .int k ∧ Rd H l (.lst xs) ∧ -(2 ^ 63) ≤ k ∧ k < 2 ^ 63 ∧ xs.length * k.toNat ≤ sizeLine ∧ ∀ p, H p = none → Q (.ref p) (upd H p (.lst (List.replicate k.toNat xs).flatten))) := by
  intro pins s σ H x y v u Q I rx ry h
  obtain ⟨l, k, xs, rfl, rfl, hH, h1, h2, hz, q⟩ := h
  cases rx
  obtain ⟨t, rfl⟩ := ry
  obtain ⟨z, its, n, r, hl, e⟩ := Inv.lstR I hH
  have hlen : its.toArray.size * k.toNat ≤ sizeLine := by rw [List.size_toArray, ← hl]; exact hz
  have hcap : ¬ its.toArray.size * k.toNat > (2 ^ 63 - 1) / 8 := by
    have : (sizeLine : Nat) ≤ (2 ^ 63 - 1) / 8 := by decide
    omega
  have hfit : ¬ (!Builtin.List.listFitsIndex k) = true := by
    rw [fitsIndex_both h1 h2]
    exact Bool.false_ne_true
  have hlong : ¬ Builtin.List.listTooLong (its.toArray.size * k.toNat) = true := by
    rw [notLongL hlen]
    exact Bool.false_ne_true
  have hnew : List.foldl (fun x1 x2 => x1 ++ x2) #[] (List.replicate (if its.toArray.isEmpty = true then 0 else k.toNat) its.toArray) = (List.replicate k.toNat its).flatten.toArray := by
    have f0 : ∀ m : Nat, List.foldl (fun x1 x2 => x1 ++ x2) #[] (List.replicate m its.toArray) = (List.replicate m its).flatten.toArray := fun m => by
      have := foldl_rep its m []
      rw [List.nil_append] at this
      exact this
    rw [f0]
    cases its with
    | nil => simp
    | cons a r' => rw [if_neg (by simp)]
  refine wpAny_binaryOp_repeat_ref (T := "list") (U := "int") (by decide) ⟨_, e, rfl⟩ (fun s' => typeIs_int s' k t) noFill_list_mul F.fills_int_mul F.slot_int_rmul repeat_list F.slot_int_index.lookup
    (call_meets F.slot_int_rmul (typeIs_int s k t) F.entry_int_rmul (F.args_int_rmul_2 _ _) (int___rmul___int_list k t l its.toArray n)
      ⟨e, rfl, ⟨_, e, rfl⟩, call_meets F.slot_list_mul ⟨_, e, rfl⟩ F.entry_list_mul (F.args_list_mul_2 _ _) (AutoListH.list___mul___list_int_3 l its.toArray n k t hfit hcap hlong) ⟨e, ?_⟩⟩)
  rw [hnew]
  exact ⟨.ref _, _, I.lnew (t' := s.toks) (r.rep k.toNat) (by rw [PyProof.Rows.lm_len_rep_flat, Nat.mul_comm]; exact hz), rfl, q _ I.fresh⟩
theorem op_mulD : OpR X (binaryOp .Mult) (rD X.K (binD .Mult)) := by
  intro pins s σ H x y v u Q I rx ry h
  obtain ⟨F, dx, dy, γ, le, r1, r2, hf, q⟩ := h
  have hl : (sizeLine : Nat) = 16777216 := sizeLine_eq
  cases dx with
  | int i =>
    cases dy with
    | int j =>
      obtain rfl := r1.int
      obtain rfl := r2.int
      have hf' : (if (-(2 ^ 64) < i ∧ i < 2 ^ 64) ∨ (-(2 ^ 64) < j ∧ j < 2 ^ 64) then some (A.d (.int (i * j))) else none) = some γ := hf
      by_cases hz : (-(2 ^ 64) < i ∧ i < 2 ^ 64) ∨ (-(2 ^ 64) < j ∧ j < 2 ^ 64)
      · rw [if_pos hz] at hf'
        cases hf'
        exact op_mul pins s σ H _ _ v u Q I rx ry ⟨i, j, rfl, rfl, hz, q _ F H (.refl le) NewA.int_⟩
      · rw [if_neg hz] at hf'
        cases hf'
    | _ => cases hf
  | lst xs =>
    cases dy with
    | int k =>
      obtain ⟨a, vs, rfl, s1, p1⟩ := r1.lst le
      obtain rfl := r2.int
      have hf' : (if -(2 ^ 63) ≤ k ∧ k < 2 ^ 63 ∧ xs.length * k.toNat ≤ Line then some (A.fr (.lst (List.replicate k.toNat xs).flatten)) else none) = some γ := hf
      by_cases hz : -(2 ^ 63) ≤ k ∧ k < 2 ^ 63 ∧ xs.length * k.toNat ≤ Line
      · rw [if_pos hz] at hf'
        cases hf'
        obtain ⟨z1, z2, z3⟩ := hz
        exact op_repR pins s σ H _ _ v u Q I rx ry ⟨a, k, vs, rfl, rfl, s1, z1, z2, by rw [hl, ← p1.length]; exact z3, fun p hp => q _ _ _ (.fresh le hp) ⟨_, rfl, hp, free_le le hp, _, upd_same, p1.rep k.toNat⟩⟩
      · rw [if_neg hz] at hf'
        cases hf'
    | _ => cases hf
  | str a =>
    cases dy with
    | int k =>
      obtain rfl := r1.str
      obtain rfl := r2.int
      have hf' : (if -(2 ^ 63) ≤ k ∧ k < 2 ^ 63 ∧ a.length * k.toNat ≤ Line then some (A.d (.str (strRep a k.toNat))) else none) = some γ := hf
      by_cases hz : -(2 ^ 63) ≤ k ∧ k < 2 ^ 63 ∧ a.length * k.toNat ≤ Line
      · rw [if_pos hz] at hf'
        cases hf'
        obtain ⟨z1, z2, z3⟩ := hz
        obtain ⟨t, rfl⟩ := rx
        obtain ⟨t', rfl⟩ := ry
        have z4 : a.length * k.toNat ≤ 16777216 := z3
        refine PySem.P.mul_str ?_ (fun h1 h2 => ?_) (fun h1 h2 => ?_) ?_
        · have e1 : ¬ k < -(2 ^ 63 : Int) := by omega
          have e2 : ¬ k ≥ 2 ^ 63 := by omega
          rw [decide_eq_false e1, decide_eq_false e2]; rfl
        · intro hgt
          have e1 : ((a.length : Int) * k) ≤ 16777216 := by
            have : (a.length : Int) * k = ((a.length * k.toNat : Nat) : Int) := by
              rw [Int.natCast_mul, Int.toNat_of_nonneg (by omega)]
            rw [this]
            exact Int.ofNat_le.mpr z4
          have e2 := Int.ediv_mul_le (2 ^ 63 - 1 : Int) (b := k) (by omega)
          have e3 : (2 ^ 63 - 1 : Int) < (2 ^ 63 - 1) / k * k + k := Int.lt_ediv_add_one_mul_self (2 ^ 63 - 1) (by omega) |> fun h => by rw [Int.add_mul, Int.one_mul] at h; exact h
          have e4 : (a.length : Int) ≥ (2 ^ 63 - 1) / k + 1 := by omega
          have e5 : ((2 ^ 63 - 1) / k + 1) * k ≤ (a.length : Int) * k := Int.mul_le_mul_of_nonneg_right e4 (by omega)
          rw [Int.add_mul, Int.one_mul] at e5
          omega
        · have : Builtin.Str.tooLong (a.length * k.toNat) = decide (a.length * k.toNat > sizeLine) := rfl
          rw [this, hl]
          exact decide_eq_false (by omega)
        · have fin : ∀ (w : Tok) (n : Nat), EP X pins σ Q (.str (strRep a k.toNat) w) { s with toks := n } := fun w n => ⟨.str _, H, I.tok n, ⟨_, rfl⟩, q _ F H (.refl le) NewA.str_⟩
          by_cases h1 : k < 1
          · rw [if_pos h1]
            have e0 : k.toNat = 0 := by omega
            refine ⟨by decide, ?_⟩
            have := fin s.toks (s.toks + 1)
            rw [e0] at this
            exact this
          · rw [if_neg h1]
            by_cases h2 : (k == 1 || a.length == 0) = true
            · rw [if_pos h2]
              have e0 : strRep a k.toNat = a := by
                rcases Bool.or_eq_true _ _ ▸ h2 with h3 | h3
                · have : k = 1 := by simpa using h3
                  subst this
                  show (⟨_⟩ : Str) = a
                  simp [List.replicate]
                · have hz0 : a.cps = #[] := Array.eq_empty_of_size_eq_zero (beq_iff_eq.mp h3)
                  have hfold : ∀ m : Nat, (List.replicate m (#[] : Array Nat)).foldl (· ++ ·) #[] = #[] := by
                    intro m
                    induction m with
                    | zero => rfl
                    | succ m ih => rw [List.replicate_succ, List.foldl_cons]; simpa using ih
                  unfold strRep
                  rw [hz0, hfold]
                  cases a
                  simp only at hz0
                  rw [hz0]
              have := fin t s.toks
              rw [e0] at this
              exact this
            · rw [if_neg h2]
              refine ⟨?_, fin s.toks (s.toks + 1)⟩
              have hsz : ∀ (m : Nat) (z : Array Nat), ((List.replicate m a.cps).foldl (· ++ ·) z).size = z.size + m * a.cps.size := by
                intro m
                induction m with
                | zero => intro z; simp
                | succ m ih => intro z; rw [List.replicate_succ, List.foldl_cons, ih, Array.size_append, Nat.succ_mul]; omega
              have : (strRep a k.toNat).length ≤ sizeLine := by
                show ((List.replicate k.toNat a.cps).foldl (· ++ ·) #[]).size ≤ sizeLine
                rw [hsz, hl, Nat.mul_comm]
                simpa [Str.length] using z4
              exact this
      · rw [if_neg hz] at hf'
        cases hf'
    | _ => cases hf
  | _ => cases dy <;> cases hf
end
end Pv

/-! Pv4: more operations: arithmetic, comparisons, subscripts, slices, truth. -/
namespace Pv
open PySem PySem.Spec L2
open PyProof.Rows hiding St
section
variable {X : Cx}
/-- ints alone -/
theorem op_intD {op : Operator} {C : Int → Int → Prop} {g : Int → Int → Int} (ho : OpR X (binaryOp op) (rI C fun i j => .int (g i j)))
    (hf : ∀ dx dy γ, binD op dx dy = some γ → ∃ i j, dx = .int i ∧ dy = .int j ∧ C i j ∧ γ = .d (.int (g i j))) : OpR X (binaryOp op) (rD X.K (binD op)) := by
  intro pins s σ H x y v u Q I rx ry h
  obtain ⟨F, dx, dy, γ, le, r1, r2, h, q⟩ := h
  obtain ⟨i, j, rfl, rfl, hc, rfl⟩ := hf dx dy γ h
  obtain rfl := r1.int
  obtain rfl := r2.int
  exact ho pins s σ H _ _ v u Q I rx ry ⟨i, j, rfl, rfl, hc, q _ F H (.refl le) NewA.int_⟩
theorem op_intD0 {op : Operator} {g : Int → Int → Int} (ho : OpR X (binaryOp op) (rI0 fun i j => .int (g i j)))
    (hf : ∀ dx dy γ, binD op dx dy = some γ → ∃ i j, dx = .int i ∧ dy = .int j ∧ γ = .d (.int (g i j))) : OpR X (binaryOp op) (rD X.K (binD op)) := by
  intro pins s σ H x y v u Q I rx ry h
  obtain ⟨F, dx, dy, γ, le, r1, r2, h, q⟩ := h
  obtain ⟨i, j, rfl, rfl, rfl⟩ := hf dx dy γ h
  obtain rfl := r1.int
  obtain rfl := r2.int
  exact ho pins s σ H _ _ v u Q I rx ry ⟨i, j, rfl, rfl, q _ F H (.refl le) NewA.int_⟩
theorem ite_some {c : Prop} [Decidable c] {α : Type} {a γ : α} (h : (if c then some a else none) = some γ) : c ∧ γ = a := by
  by_cases hc : c
  · rw [if_pos hc] at h
    exact ⟨hc, (Option.some.inj h).symm⟩
  · rw [if_neg hc] at h
    cases h
theorem op_binD (op : Operator) : OpR X (binaryOp op) (rD X.K (binD op)) := by
  cases op with
  | Add => exact op_addD
  | Mult => exact op_mulD
  | Sub => exact op_intD0 op_sub fun dx dy γ h => by cases dx <;> cases dy <;> first | (cases h; done) | (cases h; exact ⟨_, _, rfl, rfl, rfl⟩)
  | FloorDiv =>
    exact op_intD op_fdiv fun dx dy γ h => by
      cases dx <;> cases dy <;> first | (cases h; done) | (rename_i i j; obtain ⟨hc, rfl⟩ := ite_some (show (if 0 < j ∧ j < 1073741824 then some (A.d (.int (i / j))) else none) = some γ from h); exact ⟨_, _, rfl, rfl, hc, rfl⟩)
  | Mod =>
    exact op_intD op_mod fun dx dy γ h => by
      cases dx <;> cases dy <;> first | (cases h; done) | (rename_i i j; obtain ⟨hc, rfl⟩ := ite_some (show (if 0 < j then some (A.d (.int (i % j))) else none) = some γ from h); exact ⟨_, _, rfl, rfl, hc, rfl⟩)
  | Pow =>
    exact op_intD op_pow fun dx dy γ h => by
      cases dx <;> cases dy <;> first | (cases h; done) | (rename_i i j; obtain ⟨hc, rfl⟩ := ite_some (show (if 0 ≤ j ∧ j ≤ 1000000 ∧ i.natAbs < 2 ^ 64 then some (A.d (.int (i ^ j.toNat))) else none) = some γ from h); exact ⟨_, _, rfl, rfl, hc, rfl⟩)
  | LShift =>
    exact op_intD op_shl fun dx dy γ h => by
      cases dx <;> cases dy <;> first | (cases h; done) | (rename_i i j; obtain ⟨hc, rfl⟩ := ite_some (show (if 0 ≤ j ∧ j ≤ 1000000 ∧ i.natAbs < 2 ^ 64 then some (A.d (.int (i * 2 ^ j.toNat))) else none) = some γ from h); exact ⟨_, _, rfl, rfl, hc, rfl⟩)
  | RShift =>
    exact op_intD op_shr fun dx dy γ h => by
      cases dx <;> cases dy <;> first | (cases h; done) | (rename_i i j; obtain ⟨hc, rfl⟩ := ite_some (show (if 0 ≤ j then some (A.d (.int (i / 2 ^ j.toNat))) else none) = some γ from h); exact ⟨_, _, rfl, rfl, hc, rfl⟩)
  | BitAnd => exact op_intD0 op_and fun dx dy γ h => by cases dx <;> cases dy <;> first | (cases h; done) | (cases h; exact ⟨_, _, rfl, rfl, rfl⟩)
  | BitOr => exact op_intD0 op_or fun dx dy γ h => by cases dx <;> cases dy <;> first | (cases h; done) | (cases h; exact ⟨_, _, rfl, rfl, rfl⟩)
  | BitXor => exact op_intD0 op_xor fun dx dy γ h => by cases dx <;> cases dy <;> first | (cases h; done) | (cases h; exact ⟨_, _, rfl, rfl, rfl⟩)
  | _ =>
    intro pins s σ H x y v u Q I rx ry h
    obtain ⟨F, dx, dy, γ, le, r1, r2, h, q⟩ := h
    cases dx <;> cases dy <;> cases h

/-! ### comparisons -/
/-- a comparison, by its data -/
def rC (K : PySem.W.Frag) (f : D → D → Option Bool) : R2 := fun x y H Q => ∃ F dx dy k, Same F H ∧ RdD K F H dx x ∧ RdD K F H dy y ∧ f dx dy = some k ∧ Q (.bl k) H
mutual
theorem RdD.dp_ {K : PySem.W.Frag} {F H : Hp} (le : Same F H) : ∀ (d : D) (v : V), Rep K F d v → (toPy d).canLay0 = true → Dp K H v (toPy d)
  | .non, _, r, _ => by rw [Rep] at r; subst r; exact .non
  | .bl b, _, r, _ => by rw [Rep] at r; subst r; exact .bl b
  | .int b, _, r, _ => by rw [Rep] at r; subst r; exact .int b
  | .str b, _, r, _ => by rw [Rep] at r; subst r; exact .str b
  | .tup ds, _, r, h => by
    rw [Rep] at r
    obtain ⟨a, xs, e, s, q⟩ := r
    subst e
    exact .tup (Same.sqT le s) (RdD.dpAll le ds xs q (by simpa [toPy, PyData.canLay0] using h))
  | .lst ds, _, r, h => by
    rw [Rep] at r
    obtain ⟨a, xs, e, s, q⟩ := r
    subst e
    exact .lst (.inl (Same.rd le s)) (RdD.dpAll le ds xs q (by simpa [toPy, PyData.canLay0] using h))
  | .dic _, _, r, _ => by rw [Rep] at r; exact r.elim
  | .scr ds, _, r, h => by
    rw [Rep] at r
    obtain ⟨a, xs, e, s, q⟩ := r
    subst e
    exact .lst (Same.sqL le s) (RdD.dpAll le ds xs q (by simpa [toPy, PyData.canLay0] using h))
  | .adr _, _, _, h => by simp [toPy, PyData.canLay0] at h
  | .gl _ _, _, _, h => by simp [toPy, PyData.canLay0] at h
theorem RdD.dpAll {K : PySem.W.Frag} {F H : Hp} (le : Same F H) : ∀ (ds : List D) (xs : List V), Reps K F ds xs → PyData.canLayAll0 (toPy.toPys ds) = true → DpAll K H xs (toPy.toPys ds)
  | [], _, r, _ => by rw [Reps] at r; subst r; exact .nil
  | d :: ds, _, r, h => by
    rw [Reps] at r
    obtain ⟨x, t, e, q, p⟩ := r
    subst e
    have h' : (toPy d).canLay0 = true ∧ PyData.canLayAll0 (toPy.toPys ds) = true := by simpa [toPy.toPys, PyData.canLayAll0] using h
    exact .cons (RdD.dp_ le d x q h'.1) (RdD.dpAll le ds t p h'.2)
end
theorem RdD.dp {K : PySem.W.Frag} {F H : Hp} (le : Same F H) {d : D} {v : V} (r : RdD K F H d v) (h : SeqAt.shaped (toPy d) = true) : Dp K H v (toPy d) := by
  have hc := SeqAt.canLay_of_shaped h
  rcases r with r | ⟨a, e, c⟩
  · exact RdD.dp_ le d v r hc
  · cases d with
    | lst ds =>
      obtain ⟨xs, eo, q⟩ := c
      subst e
      exact .lst (.inl (.inl eo)) (RdD.dpAll le ds xs q (by simpa [toPy, PyData.canLay0] using hc))
    | gl b ds => simp [toPy, PyData.canLay0] at hc
    | _ => exact c.elim
theorem RdD.atom {K : PySem.W.Frag} {F H : Hp} {d : D} {v x : V} (r : RdD K F H d v) (h : atomV d = some x) : v = x := by
  cases d with
  | non => cases h; exact r.non
  | bl b => cases h; exact r.bl
  | int b => cases h; exact r.int
  | str b => cases h; exact r.str
  | _ => cases h
theorem eqD_way {dx dy : D} {k : Bool} (h : eqD dx dy = some k) : (∃ x y : V, atomV dx = some x ∧ atomV dy = some y ∧ scal x y = true ∧ k = decide (x = y)) ∨
    (SeqAt.shaped (toPy dx) = true ∧ SeqAt.shaped (toPy dy) = true ∧ k = PyData.eqv (toPy dx) (toPy dy)) := by
  have deep : eqDeep dx dy = some k → (SeqAt.shaped (toPy dx) = true ∧ SeqAt.shaped (toPy dy) = true ∧ k = PyData.eqv (toPy dx) (toPy dy)) := fun h => by
    obtain ⟨hc, e⟩ := ite_some (show (if SeqAt.shaped (toPy dx) = true ∧ SeqAt.shaped (toPy dy) = true then some (PyData.eqv (toPy dx) (toPy dy)) else none) = some k from h)
    exact ⟨hc.1, hc.2, e⟩
  unfold eqD at h
  split at h
  · rename_i a b ea eb
    by_cases hs : scal a b = true
    · rw [if_pos hs] at h
      exact .inl ⟨a, b, ea, eb, hs, (Option.some.inj h).symm⟩
    · rw [if_neg hs] at h
      exact .inr (deep h)
  · exact .inr (deep h)
theorem op_eqR (hu : X.A.units + 64 < cLine) : OpR X (compareOp .Eq) (rC X.K eqD) := by
  intro pins s σ H x y v u Q I rx ry h
  obtain ⟨F, dx, dy, k, le, r1, r2, hf, q⟩ := h
  rcases eqD_way hf with ⟨a, b, ea, eb, hs, e⟩ | ⟨s1, s2, e⟩
  · obtain rfl := r1.atom ea
    obtain rfl := r2.atom eb
    subst e
    exact op_eq pins s σ H _ _ v u Q I rx ry ⟨hs, q⟩
  · subst e
    exact op_eqD hu pins s σ H _ _ v u Q I rx ry ⟨_, _, r1.dp le s1, r2.dp le s2, s1, s2, q⟩
theorem op_neR (hu : X.A.units + 64 < cLine) : OpR X (compareOp .NotEq) (rC X.K fun a b => (eqD a b).map (!·)) := by
  intro pins s σ H x y v u Q I rx ry h
  obtain ⟨F, dx, dy, k, le, r1, r2, hf, q⟩ := h
  obtain ⟨k', hf2, ek⟩ := Option.map_eq_some_iff.mp hf
  subst ek
  rcases eqD_way hf2 with ⟨a, b, ea, eb, hs, e⟩ | ⟨s1, s2, e⟩
  · obtain rfl := r1.atom ea
    obtain rfl := r2.atom eb
    subst e
    exact op_ne pins s σ H _ _ v u Q I rx ry ⟨hs, q⟩
  · subst e
    exact op_neD hu pins s σ H _ _ v u Q I rx ry ⟨_, _, r1.dp le s1, r2.dp le s2, s1, s2, q⟩
theorem op_ltR (hu : X.A.units < cLine) : OpR X (compareOp .Lt) (rC X.K ltD) := by
  intro pins s σ H x y v u Q I rx ry h
  obtain ⟨F, dx, dy, k, le, r1, r2, hf, q⟩ := h
  cases dx with
  | int i =>
    cases dy with
    | int j =>
      obtain rfl := r1.int
      obtain rfl := r2.int
      cases hf
      exact op_lt pins s σ H _ _ v u Q I rx ry ⟨i, j, rfl, rfl, q⟩
    | _ => cases hf
  | str i =>
    cases dy with
    | str j =>
      obtain rfl := r1.str
      obtain rfl := r2.str
      cases hf
      exact op_lt_str pins s σ H _ _ v u Q I rx ry ⟨i, j, rfl, rfl, q⟩
    | _ => cases hf
  | tup xs =>
    cases dy with
    | tup ys =>
      obtain ⟨a, vs, rfl, s1, p1, _⟩ := r1.tup le
      obtain ⟨b, ws, rfl, s2, p2, _⟩ := r2.tup le
      have hf' : ((intsOf xs).bind fun a => (intsOf ys).bind fun b => some (HT.lexLt a b)) = some k := hf
      obtain ⟨is, e1, hf'⟩ := Option.bind_eq_some_iff.mp hf'
      obtain ⟨js, e2, hf'⟩ := Option.bind_eq_some_iff.mp hf'
      cases hf'
      obtain rfl := p1.ints e1
      obtain rfl := p2.ints e2
      exact op_ltT hu pins s σ H _ _ v u Q I rx ry ⟨a, b, is, js, rfl, rfl, s1, s2, q⟩
    | _ => cases hf
  | _ => cases dy <;> cases hf
theorem op_leR : OpR X (compareOp .LtE) (rC X.K leD) := by
  intro pins s σ H x y v u Q I rx ry h
  obtain ⟨F, dx, dy, k, le, r1, r2, hf, q⟩ := h
  cases dx with
  | int i =>
    cases dy with
    | int j =>
      obtain rfl := r1.int
      obtain rfl := r2.int
      cases hf
      exact op_le pins s σ H _ _ v u Q I rx ry ⟨i, j, rfl, rfl, q⟩
    | _ => cases hf
  | str i =>
    cases dy with
    | str j =>
      obtain rfl := r1.str
      obtain rfl := r2.str
      cases hf
      exact op_le_str pins s σ H _ _ v u Q I rx ry ⟨i, j, rfl, rfl, q⟩
    | _ => cases hf
  | _ => cases dy <;> cases hf
theorem op_gtR : OpR X (compareOp .Gt) (rC X.K gtD) := by
  intro pins s σ H x y v u Q I rx ry h
  obtain ⟨F, dx, dy, k, le, r1, r2, hf, q⟩ := h
  cases dx with
  | int i =>
    cases dy with
    | int j =>
      obtain rfl := r1.int
      obtain rfl := r2.int
      cases hf
      exact op_gt pins s σ H _ _ v u Q I rx ry ⟨i, j, rfl, rfl, q⟩
    | _ => cases hf
  | str i =>
    cases dy with
    | str j =>
      obtain rfl := r1.str
      obtain rfl := r2.str
      cases hf
      exact op_gt_str pins s σ H _ _ v u Q I rx ry ⟨i, j, rfl, rfl, q⟩
    | _ => cases hf
  | _ => cases dy <;> cases hf
theorem op_geR : OpR X (compareOp .GtE) (rC X.K geD) := by
  intro pins s σ H x y v u Q I rx ry h
  obtain ⟨F, dx, dy, k, le, r1, r2, hf, q⟩ := h
  cases dx with
  | int i =>
    cases dy with
    | int j =>
      obtain rfl := r1.int
      obtain rfl := r2.int
      cases hf
      exact op_ge pins s σ H _ _ v u Q I rx ry ⟨i, j, rfl, rfl, q⟩
    | _ => cases hf
  | str i =>
    cases dy with
    | str j =>
      obtain rfl := r1.str
      obtain rfl := r2.str
      cases hf
      exact op_ge_str pins s σ H _ _ v u Q I rx ry ⟨i, j, rfl, rfl, q⟩
    | _ => cases hf
  | _ => cases dy <;> cases hf
theorem RdD.isN {K : PySem.W.Frag} {F H : Hp} (le : Same F H) {d : D} {v : V} (r : RdD K F H d v) : decide (v = .non) = isN d := by
  cases d with
  | non => obtain rfl := r.non; rfl
  | bl b => obtain rfl := r.bl; rfl
  | int b => obtain rfl := r.int; rfl
  | str b => obtain rfl := r.str; rfl
  | tup ds => obtain ⟨a, xs, rfl, _⟩ := r.tup le; rfl
  | lst ds => obtain ⟨a, xs, rfl, _⟩ := r.lst le; rfl
  | scr ds => obtain ⟨a, xs, rfl, _⟩ := r.scr le; rfl
  | adr b => obtain rfl := r.adr; rfl
  | gl b ds => obtain ⟨xs, rfl, _⟩ := r.gl le; rfl
  | dic _ => exact r.dic.elim
theorem RdD.isBl {K : PySem.W.Frag} {F H : Hp} (le : Same F H) {d : D} {x : V} {v : Value} (r : RdD K F H d x) (rx : RelV x v) (b : Bool) : (v = .bool b ∧ isB d b = true) ∨ (plainIs v (.bool b) = true ∧ v ≠ .bool b ∧ isB d b = false) := by
  have ref : ∀ {a : Addr}, x = .ref a → isB d b = false → (v = .bool b ∧ isB d b = true) ∨ (plainIs v (.bool b) = true ∧ v ≠ .bool b ∧ isB d b = false) := fun {a} e h => by
    subst e
    cases rx
    exact .inr ⟨rfl, by simp, h⟩
  cases d with
  | non => obtain rfl := r.non; cases rx; exact .inr ⟨rfl, by simp, rfl⟩
  | bl a =>
    obtain rfl := r.bl
    cases rx
    by_cases h : a = b
    · subst h; exact .inl ⟨rfl, decide_eq_true rfl⟩
    · exact .inr ⟨rfl, fun z => h (Value.bool.inj z), decide_eq_false h⟩
  | int i => obtain rfl := r.int; obtain ⟨t, rfl⟩ := rx; exact .inr ⟨rfl, by simp, rfl⟩
  | str i => obtain rfl := r.str; obtain ⟨t, rfl⟩ := rx; exact .inr ⟨rfl, by simp, rfl⟩
  | tup ds => obtain ⟨a, xs, e, _⟩ := r.tup le; exact ref e rfl
  | lst ds => obtain ⟨a, xs, e, _⟩ := r.lst le; exact ref e rfl
  | scr ds => obtain ⟨a, xs, e, _⟩ := r.scr le; exact ref e rfl
  | adr a => exact ref r.adr rfl
  | gl a ds => obtain ⟨xs, e, _⟩ := r.gl le; exact ref e rfl
  | dic _ => exact r.dic.elim
theorem flatD_atom {d : D} (h : flatD d = true) : ∃ x, atomV d = some x ∧ flatV x = true := by
  cases d with
  | non => exact ⟨_, rfl, rfl⟩
  | bl b => exact ⟨_, rfl, rfl⟩
  | int b => exact ⟨_, rfl, rfl⟩
  | str b => exact ⟨_, rfl, rfl⟩
  | _ => cases h
theorem eqF_V {d e : D} {x y : V} (h1 : atomV d = some x) (h2 : atomV e = some y) : eqV x y = eqF d e := by
  cases d with
  | non => cases h1; cases e <;> first | (cases h2; rfl) | cases h2
  | bl b => cases h1; cases e <;> first | (cases h2; rfl) | cases h2
  | int b => cases h1; cases e <;> first | (cases h2; rfl) | cases h2
  | str b => cases h1; cases e <;> first | (cases h2; rfl) | cases h2
  | _ => cases h1
theorem Reps.flat {K : PySem.W.Frag} {F : Hp} {e : D} {y : V} (hy : atomV e = some y) : ∀ {ds : List D} {xs : List V}, Reps K F ds xs → ds.all flatD = true → xs.all flatV = true ∧ inV y xs = ds.any fun z => eqF z e
  | [], _, r, _ => by rw [Reps] at r; subst r; exact ⟨rfl, rfl⟩
  | d :: ds, _, r, h => by
    rw [Reps] at r
    obtain ⟨x, t, e1, q, p⟩ := r
    subst e1
    rw [List.all_cons, Bool.and_eq_true] at h
    obtain ⟨x', ex, fx⟩ := flatD_atom h.1
    obtain rfl := RdD.atom (H := F) (.inl q) ex
    obtain ⟨h1, h2⟩ := Reps.flat hy p h.2
    refine ⟨by rw [List.all_cons, fx, h1]; rfl, ?_⟩
    show (eqV x y || inV y t) = _
    rw [List.any_cons, eqF_V ex hy, h2]
theorem op_inR_ (neg : Bool) (op : CmpOp) (hs : OpR X (compareOp op) (rIn X.K neg)) (ht : OpR X (compareOp op) (fun x y H Q => ∃ i j, x = .str i ∧ y = .str j ∧ Q (.bl (if neg then !(!(Builtin.Str.occurrences j i 0 j.length 1).isEmpty) else !(Builtin.Str.occurrences j i 0 j.length 1).isEmpty)) H)) :
    OpR X (compareOp op) (rC X.K fun a b => (inD a b).map fun k => if neg then !k else k) := by
  intro pins s σ H x y v u Q I rx ry h
  obtain ⟨F, dx, dy, k, le, r1, r2, hf, q⟩ := h
  obtain ⟨k', hf2, ek⟩ := Option.map_eq_some_iff.mp hf
  clear hf
  rename inD dx dy = some k' => hf
  subst ek
  cases dy with
  | lst ys =>
    obtain ⟨hc, e⟩ := ite_some (show (if (flatD dx && ys.all flatD) = true then some (ys.any fun z => eqF z dx) else none) = some k' from hf)
    rw [Bool.and_eq_true] at hc
    obtain ⟨x', ex, fx⟩ := flatD_atom hc.1
    obtain rfl := r1.atom ex
    obtain ⟨a, vs, rfl, s2, p2⟩ := r2.lst le
    obtain ⟨f2, e2⟩ := p2.flat ex hc.2
    subst e
    exact hs pins s σ H _ _ v u Q I rx ry ⟨a, vs, rfl, .inl (.inl s2), fx, f2, by rw [e2]; exact q⟩
  | tup ys =>
    obtain ⟨hc, e⟩ := ite_some (show (if (flatD dx && ys.all flatD) = true then some (ys.any fun z => eqF z dx) else none) = some k' from hf)
    rw [Bool.and_eq_true] at hc
    obtain ⟨x', ex, fx⟩ := flatD_atom hc.1
    obtain rfl := r1.atom ex
    obtain ⟨a, vs, rfl, s2, p2, _⟩ := r2.tup le
    obtain ⟨f2, e2⟩ := p2.flat ex hc.2
    subst e
    exact hs pins s σ H _ _ v u Q I rx ry ⟨a, vs, rfl, .inr s2, fx, f2, by rw [e2]; exact q⟩
  | str z =>
    cases dx with
    | str z' =>
      obtain rfl := r1.str
      obtain rfl := r2.str
      cases hf
      exact ht pins s σ H _ _ v u Q I rx ry ⟨_, _, rfl, rfl, q⟩
    | _ => cases hf
  | _ => cases hf
theorem op_cmpD (op : CmpOp) (hu : X.A.units + 64 < cLine) : OpR X (compareOp op) (rC X.K (cmpD op)) := by
  cases op with
  | Eq => exact op_eqR hu
  | NotEq => exact op_neR hu
  | Lt => exact op_ltR (by omega)
  | LtE => exact op_leR
  | Gt => exact op_gtR
  | GtE => exact op_geR
  | Is =>
    intro pins s σ H x y v u Q I rx ry h
    obtain ⟨F, dx, dy, k, le, r1, r2, hf, q⟩ := h
    cases dy with
    | non =>
      obtain rfl := r2.non
      cases hf
      exact op_isN pins s σ H _ _ v u Q I rx ry ⟨rfl, by rw [r1.isN le]; exact q⟩
    | bl b =>
      obtain rfl := r2.bl
      cases hf
      cases ry
      rcases r1.isBl le rx b with ⟨e, k⟩ | ⟨e, n, k⟩
      · rw [k] at q
        rw [e]
        exact wpAny_is_self rfl ⟨.bl true, H, I, rfl, q⟩
      · rw [k] at q
        exact wpAny_is_other e n ⟨.bl false, H, I, rfl, q⟩
    | _ => cases hf
  | IsNot =>
    intro pins s σ H x y v u Q I rx ry h
    obtain ⟨F, dx, dy, k, le, r1, r2, hf, q⟩ := h
    cases dy with
    | non =>
      obtain rfl := r2.non
      cases hf
      exact op_notN pins s σ H _ _ v u Q I rx ry ⟨rfl, by rw [r1.isN le]; exact q⟩
    | bl b =>
      obtain rfl := r2.bl
      cases hf
      cases ry
      rcases r1.isBl le rx b with ⟨e, k⟩ | ⟨e, n, k⟩
      · rw [k] at q
        rw [e]
        exact wpAny_isNot_self rfl ⟨.bl false, H, I, rfl, q⟩
      · rw [k] at q
        exact wpAny_isNot_other e n ⟨.bl true, H, I, rfl, q⟩
    | _ => cases hf
  | In =>
    have h := op_inR_ (X := X) false .In op_in_seq op_in_str
    have e : (fun a b => (inD a b).map fun k => if false = true then !k else k) = cmpD .In := by
      funext a b
      show (inD a b).map (fun k => if false = true then !k else k) = inD a b
      simp
    rw [e] at h
    exact h
  | NotIn =>
    have h := op_inR_ (X := X) true .NotIn op_notIn_seq op_notin_str
    exact h

/-! ### subscripts, slices -/
theorem ix_D : IxR X (fun x y H Q => ∃ F dx dy d, Same F H ∧ RdD X.K F H dx x ∧ RdD X.K F H dy y ∧ ixD dx dy = some d ∧ ∀ v, Rep X.K F d v → Q v H) := by
  intro value slice pins s σ H x y v u Q I rx ry h hs
  obtain ⟨F, dx, dy, d, le, r1, r2, hf, q⟩ := h
  have hl : (sizeLine : Nat) = 16777216 := sizeLine_eq
  have atR : ∀ {ds : List D} {xs : List V} {k : Int} {d : D}, Reps X.K F ds xs → atI ds k = some d → ∃ w, atI xs k = some w ∧ Rep X.K F d w := fun {ds xs k d} r h => by
    unfold atI at h ⊢
    obtain ⟨j, e1, e2⟩ := Option.bind_eq_some_iff.mp h
    obtain ⟨w, e3, p⟩ := r.get e2
    exact ⟨w, by rw [← r.length, e1]; exact e3, p⟩
  cases dx with
  | lst xs =>
    cases dy with
    | int k =>
      obtain ⟨a, vs, rfl, s1, p1⟩ := r1.lst le
      obtain rfl := r2.int
      obtain ⟨w, e, p⟩ := atR p1 hf
      exact ix_list value slice pins s σ H _ _ v u Q I rx ry ⟨a, vs, k, w, rfl, rfl, .inl s1, e, q w p⟩ hs
    | _ => cases hf
  | scr xs =>
    cases dy with
    | int k =>
      obtain ⟨a, vs, rfl, s1, p1⟩ := r1.scr le
      obtain rfl := r2.int
      obtain ⟨w, e, p⟩ := atR p1 hf
      exact ix_list value slice pins s σ H _ _ v u Q I rx ry ⟨a, vs, k, w, rfl, rfl, s1, e, q w p⟩ hs
    | _ => cases hf
  | gl b xs =>
    cases dy with
    | int k =>
      obtain ⟨vs, rfl, s1, p1⟩ := r1.gl le
      obtain rfl := r2.int
      obtain ⟨w, e, p⟩ := atR p1 hf
      exact ix_list value slice pins s σ H _ _ v u Q I rx ry ⟨b, vs, k, w, rfl, rfl, .inl s1, e, q w p⟩ hs
    | _ => cases hf
  | tup xs =>
    cases dy with
    | int k =>
      obtain ⟨a, vs, rfl, s1, p1, _⟩ := r1.tup le
      obtain rfl := r2.int
      obtain ⟨w, e, p⟩ := atR p1 hf
      exact ix_tup value slice pins s σ H _ _ v u Q I rx ry ⟨a, vs, k, w, rfl, rfl, s1, e, q w p⟩ hs
    | _ => cases hf
  | str z =>
    cases dy with
    | int k =>
      obtain rfl := r1.str
      obtain rfl := r2.int
      have hf' : (if z.length ≤ Line then (atI z.cps.toList k).map (fun c => D.str ⟨#[c]⟩) else none) = some d := hf
      by_cases hz : z.length ≤ Line
      · rw [if_pos hz] at hf'
        obtain ⟨c, e1, e2⟩ := Option.map_eq_some_iff.mp hf'
        subst e2
        exact ix_str value slice pins s σ H _ _ v u Q I rx ry ⟨z, k, c, rfl, rfl, by rw [hl]; exact hz, e1, q _ .str_⟩ hs
      · rw [if_neg hz] at hf'
        cases hf'
    | _ => cases hf
  | _ => cases dy <;> cases hf
theorem Reps.cut {K : PySem.W.Frag} {F : Hp} {ds : List D} {xs : List V} (r : Reps K F ds xs) (lo hi : Option Int) : Reps K F (cutD ds lo hi) (cutV xs lo hi) := by
  unfold cutD cutV
  rw [r.length]
  exact (r.drop _).take _
theorem sl_D : SlR X (fun x lo hi H Q => ∃ F dx γ, Same F H ∧ RdD X.K F H dx x ∧ slD dx lo hi = some γ ∧ ∀ v F' H', Ext F H F' H' → NewA X.K H F' H' γ v → Q v H') := by
  intro pins s σ H x v vl vu lo hi sl Q I rx hs pl pu h
  obtain ⟨F, dx, γ, le, r1, hf, q⟩ := h
  have hl : (sizeLine : Nat) = 16777216 := sizeLine_eq
  cases dx with
  | lst xs =>
    obtain ⟨a, vs, rfl, s1, p1⟩ := r1.lst le
    cases hf
    exact sl_list pins s σ H _ v vl vu lo hi sl Q I rx hs pl pu ⟨a, vs, rfl, .inl s1, fun p hp => q _ _ _ (.fresh le hp) ⟨_, rfl, hp, free_le le hp, _, upd_same, p1.cut lo hi⟩⟩
  | tup xs =>
    obtain ⟨a, vs, rfl, s1, p1, w1⟩ := r1.tup le
    cases hf
    refine sl_tupA pins s σ H _ v vl vu lo hi sl Q I rx hs pl pu ⟨a, vs, rfl, s1, fun hw => ?_, fun hw p hp => ?_⟩
    · have e : cutD xs lo hi = xs := by
        unfold cutD
        rw [p1.length, hw.1, hw.2, List.drop_zero, Nat.sub_zero, ← p1.length, List.take_length]
      refine q _ F H (.refl le) ?_
      show Rep X.K F (.tup (cutD xs lo hi)) _
      rw [e]
      exact w1
    · exact q _ _ _ (.frozen (o := .tup (cutV vs lo hi)) le hp) (Rep.tup_ upd_same ((p1.cut lo hi).mono (Same.upd_new (free_le le hp))))
  | str z =>
    obtain rfl := r1.str
    obtain ⟨hz, rfl⟩ := ite_some (show (if z.length ≤ Line then some (A.d (.str (cutS z lo hi))) else none) = some γ from hf)
    exact sl_str pins s σ H _ v vl vu lo hi sl Q I rx hs pl pu ⟨z, rfl, by rw [hl]; exact hz, q _ F H (.refl le) NewA.str_⟩
  | _ => cases hf
/-- truth -/
theorem tru_D {K : PySem.W.Frag} {F H : Hp} (le : Same F H) {d : D} {v : V} {k : Bool} (r : RdD K F H d v) (h : truD d = some k) : TruV K v H k := by
  have hl : (sizeLine : Nat) = 16777216 := sizeLine_eq
  cases d with
  | non => obtain rfl := r.non; cases h; rfl
  | bl b => obtain rfl := r.bl; cases h; rfl
  | int b => obtain rfl := r.int; cases h; rfl
  | str b =>
    obtain rfl := r.str
    obtain ⟨hz, rfl⟩ := ite_some (show (if b.length ≤ Line then some ((b.length : Int) != 0) else none) = some k from h)
    exact ⟨by rw [hl]; exact hz, rfl⟩
  | tup ds =>
    obtain ⟨a, xs, rfl, s, p, _⟩ := r.tup le
    cases h
    exact .inr (.inl ⟨xs, s, by have := p.length; cases ds <;> cases xs <;> simp_all⟩)
  | lst ds =>
    obtain ⟨a, xs, rfl, s, p⟩ := r.lst le
    cases h
    exact .inl ⟨xs, .inl s, by have := p.length; cases ds <;> cases xs <;> simp_all⟩
  | scr ds =>
    obtain ⟨a, xs, rfl, s, p⟩ := r.scr le
    cases h
    exact .inl ⟨xs, s, by have := p.length; cases ds <;> cases xs <;> simp_all⟩
  | adr _ => cases h
  | gl _ _ => cases h
  | dic _ => exact r.dic.elim
end
end Pv

/-! Pv5: built-ins and methods on data. -/
namespace Pv
open PySem PySem.Spec L2
open PyProof.Rows hiding St
abbrev RdDs (K : PySem.W.Frag) (F H : Hp) : List D → List V → Prop := Paired (RdD K F H)
def rB (K : PySem.W.Frag) (f : List D → Option A) : List V → Hp → VK → Prop := fun xs H Q => ∃ F ds γ, Same F H ∧ RdDs K F H ds xs ∧ f ds = some γ ∧ ∀ v F' H', Ext F H F' H' → NewA K H F' H' γ v → Q v H'
theorem RdDs.one {K : PySem.W.Frag} {F H : Hp} {d : D} {xs : List V} (r : RdDs K F H [d] xs) : ∃ x, xs = [x] ∧ RdD K F H d x := by
  cases r with
  | cons h t => cases t; exact ⟨_, rfl, h⟩
theorem RdDs.two {K : PySem.W.Frag} {F H : Hp} {d e : D} {xs : List V} (r : RdDs K F H [d, e] xs) : ∃ x y, xs = [x, y] ∧ RdD K F H d x ∧ RdD K F H e y := by
  cases r with
  | cons h t =>
    cases t with
    | cons h2 t => cases t; exact ⟨_, _, rfl, h, h2⟩
section
variable {X : Cx}
theorem fold_max_mem : ∀ (r : List Int) (i : Int), r.foldl max i ∈ i :: r
  | [], i => by simp
  | j :: r, i => by
    rw [List.foldl_cons]
    have h := fold_max_mem r (max i j)
    rcases List.mem_cons.mp h with h | h
    · rw [h]
      by_cases hij : i ≤ j
      · rw [Int.max_eq_right hij]; simp
      · rw [Int.max_eq_left (by omega)]; simp
    · exact List.mem_cons_of_mem _ (List.mem_cons_of_mem _ h)
theorem fold_max_le : ∀ (r : List Int) (i : Int), ∀ y ∈ i :: r, y ≤ r.foldl max i
  | [], i, y, h => by simp at h; subst h; exact Int.le_refl _
  | j :: r, i, y, h => by
    rw [List.foldl_cons]
    have ih := fold_max_le r (max i j)
    rcases List.mem_cons.mp h with h | h
    · subst h
      exact Int.le_trans (Int.le_max_left _ _) (ih _ List.mem_cons_self)
    · rcases List.mem_cons.mp h with h | h
      · subst h
        exact Int.le_trans (Int.le_max_right _ _) (ih _ List.mem_cons_self)
      · exact ih _ (List.mem_cons_of_mem _ h)
theorem fold_min_mem : ∀ (r : List Int) (i : Int), r.foldl min i ∈ i :: r
  | [], i => by simp
  | j :: r, i => by
    rw [List.foldl_cons]
    have h := fold_min_mem r (min i j)
    rcases List.mem_cons.mp h with h | h
    · rw [h]
      by_cases hij : i ≤ j
      · rw [Int.min_eq_left hij]; simp
      · rw [Int.min_eq_right (by omega)]; simp
    · exact List.mem_cons_of_mem _ (List.mem_cons_of_mem _ h)
theorem fold_min_le : ∀ (r : List Int) (i : Int), ∀ y ∈ i :: r, r.foldl min i ≤ y
  | [], i, y, h => by simp at h; subst h; exact Int.le_refl _
  | j :: r, i, y, h => by
    rw [List.foldl_cons]
    have ih := fold_min_le r (min i j)
    rcases List.mem_cons.mp h with h | h
    · subst h
      exact Int.le_trans (ih _ List.mem_cons_self) (Int.min_le_left _ _)
    · rcases List.mem_cons.mp h with h | h
      · subst h
        exact Int.le_trans (ih _ List.mem_cons_self) (Int.min_le_right _ _)
      · exact ih _ (List.mem_cons_of_mem _ h)
theorem nil_of {K : PySem.W.Frag} {F : Hp} {vs : List V} (p : Reps K F [] vs) : vs = [] := by rw [Reps] at p; exact p
theorem call_lenD : CallR X (.builtin "len") (rB X.K lenD) := by
  intro pins s σ H xs us Q I rx h
  obtain ⟨F, ds, γ, le, r, hf, q⟩ := h
  have hl : (sizeLine : Nat) = 16777216 := sizeLine_eq
  match ds, r, hf with
  | [.lst ys], r, hf =>
    obtain ⟨x, rfl, r1⟩ := r.one
    obtain ⟨a, vs, rfl, s1, p1⟩ := r1.lst le
    cases hf
    exact call_len_seq pins s σ H _ us Q I rx ⟨a, vs, rfl, .inl (.inl s1), by rw [← p1.length]; exact q _ F H (.refl le) NewA.int_⟩
  | [.tup ys], r, hf =>
    obtain ⟨x, rfl, r1⟩ := r.one
    obtain ⟨a, vs, rfl, s1, p1, _⟩ := r1.tup le
    cases hf
    exact call_len_seq pins s σ H _ us Q I rx ⟨a, vs, rfl, .inr s1, by rw [← p1.length]; exact q _ F H (.refl le) NewA.int_⟩
  | [.scr ys], r, hf =>
    obtain ⟨x, rfl, r1⟩ := r.one
    obtain ⟨a, vs, rfl, s1, p1⟩ := r1.scr le
    cases hf
    exact call_len_seq pins s σ H _ us Q I rx ⟨a, vs, rfl, .inl s1, by rw [← p1.length]; exact q _ F H (.refl le) NewA.int_⟩
  | [.gl b ys], r, hf =>
    obtain ⟨x, rfl, r1⟩ := r.one
    obtain ⟨vs, rfl, s1, p1⟩ := r1.gl le
    cases hf
    exact call_len_seq pins s σ H _ us Q I rx ⟨b, vs, rfl, .inl (.inl s1), by rw [← p1.length]; exact q _ F H (.refl le) NewA.int_⟩
  | [.str z], r, hf =>
    obtain ⟨x, rfl, r1⟩ := r.one
    obtain rfl := r1.str
    obtain ⟨hz, rfl⟩ := ite_some (show (if z.length ≤ Line then some (A.d (.int z.length)) else none) = some γ from hf)
    exact call_len_str pins s σ H _ us Q I rx ⟨z, rfl, by rw [hl]; exact hz, q _ F H (.refl le) NewA.int_⟩
theorem call_tupD : CallR X (.type "tuple") (rB X.K tupleD) := by
  intro pins s σ H xs us Q I rx h
  obtain ⟨F, ds, γ, le, r, hf, q⟩ := h
  match ds, r, hf with
  | [.lst ys], r, hf =>
    obtain ⟨x, rfl, r1⟩ := r.one
    obtain ⟨a, vs, rfl, s1, p1⟩ := r1.lst le
    cases hf
    exact call_tuple_of pins s σ H _ us Q I rx ⟨a, vs, rfl, .inl ⟨.inl s1, fun p hp => q _ _ _ (.frozen (o := .tup vs) le hp) (Rep.tup_ upd_same (p1.mono (Same.upd_new (free_le le hp))))⟩⟩
  | [.tup ys], r, hf =>
    obtain ⟨x, rfl, r1⟩ := r.one
    obtain ⟨a, vs, rfl, s1, p1, w1⟩ := r1.tup le
    cases hf
    exact call_tuple_of pins s σ H _ us Q I rx ⟨a, vs, rfl, .inr ⟨s1, q _ F H (.refl le) w1⟩⟩
  | [.scr ys], r, hf =>
    obtain ⟨x, rfl, r1⟩ := r.one
    obtain ⟨a, vs, rfl, s1, p1⟩ := r1.scr le
    cases hf
    exact call_tuple_of pins s σ H _ us Q I rx ⟨a, vs, rfl, .inl ⟨s1, fun p hp => q _ _ _ (.frozen (o := .tup vs) le hp) (Rep.tup_ upd_same (p1.mono (Same.upd_new (free_le le hp))))⟩⟩
theorem call_lstD : CallR X (.type "list") (rB X.K listD) := by
  intro pins s σ H xs us Q I rx h
  obtain ⟨F, ds, γ, le, r, hf, q⟩ := h
  match ds, r, hf with
  | [.lst ys], r, hf =>
    obtain ⟨x, rfl, r1⟩ := r.one
    obtain ⟨a, vs, rfl, s1, p1⟩ := r1.lst le
    cases hf
    exact call_list_of pins s σ H _ us Q I rx ⟨a, vs, rfl, .inl (.inl s1), fun p hp => q _ _ _ (.fresh le hp) ⟨_, rfl, hp, free_le le hp, _, upd_same, p1⟩⟩
  | [.tup ys], r, hf =>
    obtain ⟨x, rfl, r1⟩ := r.one
    obtain ⟨a, vs, rfl, s1, p1, w1⟩ := r1.tup le
    cases hf
    exact call_list_of pins s σ H _ us Q I rx ⟨a, vs, rfl, .inr s1, fun p hp => q _ _ _ (.fresh le hp) ⟨_, rfl, hp, free_le le hp, _, upd_same, p1⟩⟩
  | [.scr ys], r, hf =>
    obtain ⟨x, rfl, r1⟩ := r.one
    obtain ⟨a, vs, rfl, s1, p1⟩ := r1.scr le
    cases hf
    exact call_list_of pins s σ H _ us Q I rx ⟨a, vs, rfl, .inl s1, fun p hp => q _ _ _ (.fresh le hp) ⟨_, rfl, hp, free_le le hp, _, upd_same, p1⟩⟩
theorem call_allD (hc : X.calm = true) : CallR X (.builtin "all") (rB X.K allD) := by
  intro pins s σ H xs us Q I rx h
  obtain ⟨F, ds, γ, le, r, hf, q⟩ := h
  match ds, r, hf with
  | [.lst ys], r, hf =>
    obtain ⟨x, rfl, r1⟩ := r.one
    obtain ⟨a, vs, rfl, s1, p1⟩ := r1.lst le
    obtain ⟨bs, e, rfl⟩ := Option.map_eq_some_iff.mp (show (blsOf ys).map (fun bs => A.d (.bl (bs.all id))) = some γ from hf)
    obtain rfl := p1.bls e
    exact cr_all hc pins s σ H _ us Q I rx ⟨a, bs, rfl, .inl s1, q _ F H (.refl le) NewA.bl_⟩
theorem call_anyD (hc : X.calm = true) : CallR X (.builtin "any") (rB X.K anyD) := by
  intro pins s σ H xs us Q I rx h
  obtain ⟨F, ds, γ, le, r, hf, q⟩ := h
  match ds, r, hf with
  | [.lst ys], r, hf =>
    obtain ⟨x, rfl, r1⟩ := r.one
    obtain ⟨a, vs, rfl, s1, p1⟩ := r1.lst le
    obtain ⟨bs, e, rfl⟩ := Option.map_eq_some_iff.mp (show (blsOf ys).map (fun bs => A.d (.bl (bs.any id))) = some γ from hf)
    obtain rfl := p1.bls e
    exact cr_any hc pins s σ H _ us Q I rx ⟨a, bs, rfl, .inl s1, q _ F H (.refl le) NewA.bl_⟩
theorem call_sumD (hc : X.calm = true) : CallR X (.builtin "sum") (rB X.K sumD) := by
  intro pins s σ H xs us Q I rx h
  obtain ⟨F, ds, γ, le, r, hf, q⟩ := h
  match ds, r, hf with
  | [.lst ys], r, hf =>
    obtain ⟨x, rfl, r1⟩ := r.one
    obtain ⟨a, vs, rfl, s1, p1⟩ := r1.lst le
    obtain ⟨is, e, rfl⟩ := Option.map_eq_some_iff.mp (show (intsOf ys).map (fun is => A.d (.int is.sum)) = some γ from hf)
    obtain rfl := p1.ints e
    exact cr_sum hc pins s σ H _ us Q I rx ⟨a, is, rfl, .inl s1, q _ F H (.refl le) NewA.int_⟩
theorem call_intD : CallR X (.type "int") (rB X.K intD) := by
  intro pins s σ H xs us Q I rx h
  obtain ⟨F, ds, γ, le, r, hf, q⟩ := h
  match ds, r, hf with
  | [.int i], r, hf =>
    obtain ⟨x, rfl, r1⟩ := r.one
    obtain rfl := r1.int
    cases hf
    exact call_int1 pins s σ H _ us Q I rx (.inl ⟨i, rfl, q _ F H (.refl le) NewA.int_⟩)
  | [.bl k], r, hf =>
    obtain ⟨x, rfl, r1⟩ := r.one
    obtain rfl := r1.bl
    cases hf
    exact call_int1 pins s σ H _ us Q I rx (.inr ⟨k, rfl, q _ F H (.refl le) NewA.int_⟩)
theorem call_absD : CallR X (.builtin "abs") (rB X.K absD) := by
  intro pins s σ H xs us Q I rx h
  obtain ⟨F, ds, γ, le, r, hf, q⟩ := h
  match ds, r, hf with
  | [.int i], r, hf =>
    obtain ⟨x, rfl, r1⟩ := r.one
    obtain rfl := r1.int
    cases hf
    exact call_abs pins s σ H _ us Q I rx ⟨i, rfl, q _ F H (.refl le) NewA.int_⟩
theorem call_maxD (hc : X.calm = true) : CallR X (.builtin "max") (rB X.K maxD) := by
  intro pins s σ H xs us Q I rx h
  obtain ⟨F, ds, γ, le, r, hf, q⟩ := h
  match ds, r, hf with
  | [.int i, .int j], r, hf =>
    obtain ⟨x, y, rfl, r1, r2⟩ := r.two
    obtain rfl := r1.int
    obtain rfl := r2.int
    cases hf
    exact call_max2 hc pins s σ H _ us Q I rx ⟨i, j, rfl, q _ F H (.refl le) NewA.int_⟩
  | [.lst ys], r, hf =>
    obtain ⟨x, rfl, r1⟩ := r.one
    obtain ⟨a, vs, rfl, s1, p1⟩ := r1.lst le
    obtain ⟨is, e, hm⟩ := Option.bind_eq_some_iff.mp (show (intsOf ys).bind maxOf = some γ from hf)
    obtain rfl := p1.ints e
    cases is with
    | nil => cases hm
    | cons i rs =>
      cases hm
      refine cr_max hc pins s σ H _ us Q I rx ⟨a, i :: rs, rfl, .inl s1, by simp, fun m hm1 hm2 => ?_⟩
      have e1 : m = rs.foldl max i := Int.le_antisymm (fold_max_le rs i m hm1) (hm2 _ (fold_max_mem rs i))
      subst e1
      exact q _ F H (.refl le) NewA.int_
theorem call_minD (hc : X.calm = true) : CallR X (.builtin "min") (rB X.K minD) := by
  intro pins s σ H xs us Q I rx h
  obtain ⟨F, ds, γ, le, r, hf, q⟩ := h
  match ds, r, hf with
  | [.int i, .int j], r, hf =>
    obtain ⟨x, y, rfl, r1, r2⟩ := r.two
    obtain rfl := r1.int
    obtain rfl := r2.int
    cases hf
    exact call_min2 hc pins s σ H _ us Q I rx ⟨i, j, rfl, q _ F H (.refl le) NewA.int_⟩
  | [.lst ys], r, hf =>
    obtain ⟨x, rfl, r1⟩ := r.one
    obtain ⟨a, vs, rfl, s1, p1⟩ := r1.lst le
    obtain ⟨is, e, hm⟩ := Option.bind_eq_some_iff.mp (show (intsOf ys).bind minOf = some γ from hf)
    obtain rfl := p1.ints e
    cases is with
    | nil => cases hm
    | cons i rs =>
      cases hm
      refine cr_min hc pins s σ H _ us Q I rx ⟨a, i :: rs, rfl, .inl s1, by simp, fun m hm1 hm2 => ?_⟩
      have e1 : m = rs.foldl min i := Int.le_antisymm (hm2 _ (fold_min_mem rs i)) (fold_min_le rs i m hm1)
      subst e1
      exact q _ F H (.refl le) NewA.int_
theorem call_strD : CallR X (.type "str") (rB X.K strD) := by
  intro pins s σ H xs us Q I rx h
  obtain ⟨F, ds, γ, le, r, hf, q⟩ := h
  match ds, r, hf with
  | [.int i], r, hf =>
    obtain ⟨x, rfl, r1⟩ := r.one
    obtain rfl := r1.int
    obtain ⟨hz, rfl⟩ := ite_some (show (if i.natAbs.log2 < 1920 then some (A.d (.str (Str.ofString (toString i)))) else none) = some γ from hf)
    exact call_str_int pins s σ H _ us Q I rx ⟨i, rfl, hz, q _ F H (.refl le) NewA.str_⟩

/-! ### methods -/
def rM1 (K : PySem.W.Frag) (f : D → D → Option A) : V → List V → Hp → VK → Prop := fun x xs H Q => ∃ F dx dy y γ, xs = [y] ∧ Same F H ∧ RdD K F H dx x ∧ RdD K F H dy y ∧ f dx dy = some γ ∧ ∀ v F' H', Ext F H F' H' → NewA K H F' H' γ v → Q v H'
theorem joinD_way {dx dy : D} {γ : A} (h : joinD dx dy = some γ) : ∃ a ys zs, dx = .str a ∧ (dy = .lst ys ∨ dy = .tup ys) ∧ strsOf ys = some zs ∧ (zs.map (·.length)).sum + zs.length * a.length ≤ 16777216 ∧ γ = A.d (.str (Txt.join a zs)) := by
  unfold joinD at h
  split at h
  · obtain ⟨zs, e, hm⟩ := Option.bind_eq_some_iff.mp h
    obtain ⟨hz, rfl⟩ := ite_some hm
    exact ⟨_, _, zs, rfl, .inl rfl, e, hz, rfl⟩
  · obtain ⟨zs, e, hm⟩ := Option.bind_eq_some_iff.mp h
    obtain ⟨hz, rfl⟩ := ite_some hm
    exact ⟨_, _, zs, rfl, .inr rfl, e, hz, rfl⟩
  · cases h
theorem mt_joinD : MtR X "str.join" (rM1 X.K joinD) := by
  intro pins s σ H x xs v us Q I rx rxs h
  obtain ⟨F, dx, dy, y, γ, rfl, le, r1, r2, hf, q⟩ := h
  obtain ⟨a, ys, zs, rfl, hd, e, hz, rfl⟩ := joinD_way hf
  obtain rfl := r1.str
  rcases hd with rfl | rfl
  · obtain ⟨b, vs, rfl, s1, p1⟩ := r2.lst le
    obtain rfl := p1.strs e
    exact mt_join pins s σ H _ _ v us Q I rx rxs ⟨a, b, zs, rfl, rfl, .inl (.inl s1), hz, q _ F H (.refl le) NewA.str_⟩
  · obtain ⟨b, vs, rfl, s1, p1, _⟩ := r2.tup le
    obtain rfl := p1.strs e
    exact mt_join pins s σ H _ _ v us Q I rx rxs ⟨a, b, zs, rfl, rfl, .inr s1, hz, q _ F H (.refl le) NewA.str_⟩
theorem sindexD_way {dx dy : D} {γ : A} (h : sindexD dx dy = some γ) : ∃ a b k, dx = .str a ∧ dy = .str b ∧ Txt.index0 a b = some k ∧ γ = A.d (.int (k : Nat)) := by
  unfold sindexD at h
  split at h
  · obtain ⟨k, e, rfl⟩ := Option.map_eq_some_iff.mp h
    exact ⟨_, _, k, rfl, rfl, e, rfl⟩
  · cases h
theorem mt_sindexD (hc : X.calm = true) : MtR X "str.index" (rM1 X.K sindexD) := by
  intro pins s σ H x xs v us Q I rx rxs h
  obtain ⟨F, dx, dy, y, γ, rfl, le, r1, r2, hf, q⟩ := h
  obtain ⟨a, b, k, rfl, rfl, e, rfl⟩ := sindexD_way hf
  obtain rfl := r1.str
  obtain rfl := r2.str
  refine mt_indexX hc (takes0 (X := X)) pins s σ H _ _ v us Q I rx rxs ⟨a, b, rfl, rfl, fun k' hk => ?_, fun hn => ?_⟩
  · rw [e] at hk
    cases hk
    exact q _ F H (.refl le) NewA.int_
  · rw [e] at hn
    cases hn

/-! ### isinstance -/
def tyName : Nat → Option String
  | 0 => some "int"
  | 1 => some "bool"
  | 2 => some "str"
  | 3 => some "tuple"
  | 4 => some "list"
  | 5 => some "dict"
  | _ => none
def nameOf : D → String
  | .non => "NoneType"
  | .bl _ => "bool"
  | .int _ => "int"
  | .str _ => "str"
  | .tup _ => "tuple"
  | .lst _ => "list"
  | .dic _ => "dict"
  | .scr _ => "list"
  | .adr _ => "list"
  | .gl _ _ => "list"
theorem RdD.ty {K : PySem.W.Frag} {F H : Hp} {d : D} {v : V} {t : Nat} {k : Bool} (r : RdD K F H d v) (hk : isiO d t = some k) (le : Same F H) : TyX K H v (.type (nameOf d)) := by
  cases d with
  | non => obtain rfl := r.non; exact .base .non
  | bl b => obtain rfl := r.bl; exact .base (.bl b)
  | int b => obtain rfl := r.int; exact .base (.int b)
  | str b => obtain rfl := r.str; exact .base (.str b)
  | tup ds =>
    obtain ⟨a, xs, rfl, s, p, _⟩ := r.tup le
    rcases s with (s | ⟨o, s⟩) | ⟨o, its, n, e, c, _⟩
    · exact .base (.tup s)
    · exact .fTuple s
    · exact .kTuple e c
  | lst ds =>
    obtain ⟨a, xs, rfl, s, p⟩ := r.lst le
    rcases s with s | ⟨o, s⟩
    · exact .base (.lst s)
    · exact .base (.frz s)
  | scr ds =>
    obtain ⟨a, xs, rfl, s, p⟩ := r.scr le
    rcases s with (s | ⟨o, s⟩) | ⟨o, its, n, e, c, _⟩
    · exact .base (.lst s)
    · exact .base (.frz s)
    · exact .kList e c
  | adr _ => cases hk
  | gl _ _ => cases hk
  | dic _ => exact r.dic.elim
theorem isiO_D {d : D} {t : Nat} {k : Bool} (h : isiO d t = some k) : k = isiD d t := by
  cases d <;> cases h <;> rfl
theorem isi_kit {K : PySem.W.Frag} {d : D} {t : Nat} {n : String} (h : tyName t = some n) : PySem.W.kitOne K (.type (nameOf d)) (.type n) = some (isiD d t) := by
  match t, h, d with
  | 0, h, .non => cases h; exact kit_ty (a := "NoneType") (b := "int") (r := false) (by decide +kernel)
  | 0, h, .bl _ => cases h; exact kit_ty (a := "bool") (b := "int") (r := true) (by decide +kernel)
  | 0, h, .int _ => cases h; exact kit_ty (a := "int") (b := "int") (r := true) (by decide +kernel)
  | 0, h, .str _ => cases h; exact kit_ty (a := "str") (b := "int") (r := false) (by decide +kernel)
  | 0, h, .tup _ => cases h; exact kit_ty (a := "tuple") (b := "int") (r := false) (by decide +kernel)
  | 0, h, .lst _ => cases h; exact kit_ty (a := "list") (b := "int") (r := false) (by decide +kernel)
  | 0, h, .adr _ => cases h; exact kit_ty (a := "list") (b := "int") (r := false) (by decide +kernel)
  | 0, h, .gl _ _ => cases h; exact kit_ty (a := "list") (b := "int") (r := false) (by decide +kernel)
  | 0, h, .scr _ => cases h; exact kit_ty (a := "list") (b := "int") (r := false) (by decide +kernel)
  | 0, h, .dic _ => cases h; exact kit_ty (a := "dict") (b := "int") (r := false) (by decide +kernel)
  | 1, h, .non => cases h; exact kit_ty (a := "NoneType") (b := "bool") (r := false) (by decide +kernel)
  | 1, h, .bl _ => cases h; exact kit_ty (a := "bool") (b := "bool") (r := true) (by decide +kernel)
  | 1, h, .int _ => cases h; exact kit_ty (a := "int") (b := "bool") (r := false) (by decide +kernel)
  | 1, h, .str _ => cases h; exact kit_ty (a := "str") (b := "bool") (r := false) (by decide +kernel)
  | 1, h, .tup _ => cases h; exact kit_ty (a := "tuple") (b := "bool") (r := false) (by decide +kernel)
  | 1, h, .lst _ => cases h; exact kit_ty (a := "list") (b := "bool") (r := false) (by decide +kernel)
  | 1, h, .adr _ => cases h; exact kit_ty (a := "list") (b := "bool") (r := false) (by decide +kernel)
  | 1, h, .gl _ _ => cases h; exact kit_ty (a := "list") (b := "bool") (r := false) (by decide +kernel)
  | 1, h, .scr _ => cases h; exact kit_ty (a := "list") (b := "bool") (r := false) (by decide +kernel)
  | 1, h, .dic _ => cases h; exact kit_ty (a := "dict") (b := "bool") (r := false) (by decide +kernel)
  | 2, h, .non => cases h; exact kit_ty (a := "NoneType") (b := "str") (r := false) (by decide +kernel)
  | 2, h, .bl _ => cases h; exact kit_ty (a := "bool") (b := "str") (r := false) (by decide +kernel)
  | 2, h, .int _ => cases h; exact kit_ty (a := "int") (b := "str") (r := false) (by decide +kernel)
  | 2, h, .str _ => cases h; exact kit_ty (a := "str") (b := "str") (r := true) (by decide +kernel)
  | 2, h, .tup _ => cases h; exact kit_ty (a := "tuple") (b := "str") (r := false) (by decide +kernel)
  | 2, h, .lst _ => cases h; exact kit_ty (a := "list") (b := "str") (r := false) (by decide +kernel)
  | 2, h, .adr _ => cases h; exact kit_ty (a := "list") (b := "str") (r := false) (by decide +kernel)
  | 2, h, .gl _ _ => cases h; exact kit_ty (a := "list") (b := "str") (r := false) (by decide +kernel)
  | 2, h, .scr _ => cases h; exact kit_ty (a := "list") (b := "str") (r := false) (by decide +kernel)
  | 2, h, .dic _ => cases h; exact kit_ty (a := "dict") (b := "str") (r := false) (by decide +kernel)
  | 3, h, .non => cases h; exact kit_ty (a := "NoneType") (b := "tuple") (r := false) (by decide +kernel)
  | 3, h, .bl _ => cases h; exact kit_ty (a := "bool") (b := "tuple") (r := false) (by decide +kernel)
  | 3, h, .int _ => cases h; exact kit_ty (a := "int") (b := "tuple") (r := false) (by decide +kernel)
  | 3, h, .str _ => cases h; exact kit_ty (a := "str") (b := "tuple") (r := false) (by decide +kernel)
  | 3, h, .tup _ => cases h; exact kit_ty (a := "tuple") (b := "tuple") (r := true) (by decide +kernel)
  | 3, h, .lst _ => cases h; exact kit_ty (a := "list") (b := "tuple") (r := false) (by decide +kernel)
  | 3, h, .adr _ => cases h; exact kit_ty (a := "list") (b := "tuple") (r := false) (by decide +kernel)
  | 3, h, .gl _ _ => cases h; exact kit_ty (a := "list") (b := "tuple") (r := false) (by decide +kernel)
  | 3, h, .scr _ => cases h; exact kit_ty (a := "list") (b := "tuple") (r := false) (by decide +kernel)
  | 3, h, .dic _ => cases h; exact kit_ty (a := "dict") (b := "tuple") (r := false) (by decide +kernel)
  | 4, h, .non => cases h; exact kit_ty (a := "NoneType") (b := "list") (r := false) (by decide +kernel)
  | 4, h, .bl _ => cases h; exact kit_ty (a := "bool") (b := "list") (r := false) (by decide +kernel)
  | 4, h, .int _ => cases h; exact kit_ty (a := "int") (b := "list") (r := false) (by decide +kernel)
  | 4, h, .str _ => cases h; exact kit_ty (a := "str") (b := "list") (r := false) (by decide +kernel)
  | 4, h, .tup _ => cases h; exact kit_ty (a := "tuple") (b := "list") (r := false) (by decide +kernel)
  | 4, h, .lst _ => cases h; exact kit_ty (a := "list") (b := "list") (r := true) (by decide +kernel)
  | 4, h, .adr _ => cases h; exact kit_ty (a := "list") (b := "list") (r := true) (by decide +kernel)
  | 4, h, .gl _ _ => cases h; exact kit_ty (a := "list") (b := "list") (r := true) (by decide +kernel)
  | 4, h, .scr _ => cases h; exact kit_ty (a := "list") (b := "list") (r := true) (by decide +kernel)
  | 4, h, .dic _ => cases h; exact kit_ty (a := "dict") (b := "list") (r := false) (by decide +kernel)
  | 5, h, .non => cases h; exact kit_ty (a := "NoneType") (b := "dict") (r := false) (by decide +kernel)
  | 5, h, .bl _ => cases h; exact kit_ty (a := "bool") (b := "dict") (r := false) (by decide +kernel)
  | 5, h, .int _ => cases h; exact kit_ty (a := "int") (b := "dict") (r := false) (by decide +kernel)
  | 5, h, .str _ => cases h; exact kit_ty (a := "str") (b := "dict") (r := false) (by decide +kernel)
  | 5, h, .tup _ => cases h; exact kit_ty (a := "tuple") (b := "dict") (r := false) (by decide +kernel)
  | 5, h, .lst _ => cases h; exact kit_ty (a := "list") (b := "dict") (r := false) (by decide +kernel)
  | 5, h, .adr _ => cases h; exact kit_ty (a := "list") (b := "dict") (r := false) (by decide +kernel)
  | 5, h, .gl _ _ => cases h; exact kit_ty (a := "list") (b := "dict") (r := false) (by decide +kernel)
  | 5, h, .scr _ => cases h; exact kit_ty (a := "list") (b := "dict") (r := false) (by decide +kernel)
  | 5, h, .dic _ => cases h; exact kit_ty (a := "dict") (b := "dict") (r := true) (by decide +kernel)
end
end Pv

/-! Pv6: what an expression's code tells of the expression. -/
namespace Pv
open PySem PySem.Spec L2
open PyProof.Rows hiding St

/-- what is fixed: the written part, the classes of errors by number, how many -/
structure Gm where
  K : PySem.W.Frag
  cl : Nat → Addr
  n : Nat
/-- how an exception lies -/
def XRep (Γ : Gm) (F H : Hp) (x : Ex) (C : Value) (d : Option Addr) : Prop :=
  x.cls < Γ.n ∧ C = .ref (Γ.cl x.cls) ∧ ∃ a fs v, d = some a ∧ H a = some (.xd fs) ∧ fs.lookup ("place" : Str) = some v ∧ Rep Γ.K F x.place v ∧ fs.lookup ("name" : Str) = some (V.str x.nm)
def Post (Γ : Gm) (F H : Hp) (σ : L2.St) (ρ : Env) (W : WX) {α β : Type} (r : R α) (rep : Hp → Hp → Env → α → β → Prop) (Q : β → Hp → Prop) : Prop := match r with
  | .ok a ρ' => ∀ (b : β) (F' H' : Hp), Go Γ.K F H σ ρ F' H' σ ρ' → rep F' H' ρ' a b → Q b H'
  | .exc x ρ' => ∀ (F' H' : Hp) (C : Value) (d : Option Addr), Go Γ.K F H σ ρ F' H' σ ρ' → XRep Γ F' H' x C d → W C d σ H'
  | .stuck => False
section
variable {Γ : Gm} {F H F1 H1 : Hp} {σ : L2.St} {ρ ρ1 : Env} {W : WX}
theorem Post.from {α β : Type} {r : R α} {rep rep1 : Hp → Hp → Env → α → β → Prop} {Q : β → Hp → Prop} (h : Post Γ F H σ ρ W r rep Q) (g : Go Γ.K F H σ ρ F1 H1 σ ρ1)
    (hr : ∀ (F' H' : Hp) (ρ' : Env) (a : α) (b : β), rep1 F' H' ρ' a b → rep F' H' ρ' a b) : Post Γ F1 H1 σ ρ1 W r rep1 Q := by
  cases r with
  | ok a ρ' => exact fun b F' H' g' r' => h b F' H' (g.trans g') (hr _ _ _ _ _ r')
  | exc x ρ' => exact fun F' H' C d g' r' => h F' H' C d (g.trans g') r'
  | stuck => exact h
theorem Post.bnd {α β γ δ : Type} {r : R α} {f : α → Env → R γ} {rep : Hp → Hp → Env → γ → β → Prop} {rep1 : Hp → Hp → Env → α → δ → Prop} {Q : β → Hp → Prop} {Q1 : δ → Hp → Prop} (h : Post Γ F H σ ρ W (r.bind f) rep Q)
    (k : ∀ (a : α) (ρ' : Env), Post Γ F H σ ρ W (f a ρ') rep Q → ∀ (b : δ) (F' H' : Hp), Go Γ.K F H σ ρ F' H' σ ρ' → rep1 F' H' ρ' a b → Q1 b H') : Post Γ F H σ ρ W r rep1 Q1 := by
  cases r with
  | ok a ρ' => exact k a ρ' h
  | exc x ρ' => exact h
  | stuck => exact h
theorem Post.opt {α β : Type} {o : Option α} {ρ' : Env} {rep : Hp → Hp → Env → α → β → Prop} {Q : β → Hp → Prop} (h : Post Γ F H σ ρ W (R.of o ρ') rep Q) :
    ∃ a, o = some a ∧ ∀ (b : β) (F' H' : Hp), Go Γ.K F H σ ρ F' H' σ ρ' → rep F' H' ρ' a b → Q b H' := by
  cases o with
  | none => exact h.elim
  | some a => exact ⟨a, rfl, h⟩
theorem RepA.back {F' H' : Hp} {ρ' : Env} {a : A} {v : V} (g : Go Γ.K F H σ ρ F1 H1 σ ρ1) (r : RepA Γ.K H1 F' H' σ ρ' a v) : RepA Γ.K H F' H' σ ρ' a v := by
  cases a with
  | d x => exact r
  | fr x =>
    obtain ⟨a, e, h0, q⟩ := r
    refine ⟨a, e, ?_, q⟩
    cases z : H a with
    | none => rfl
    | some o => exact absurd h0 (g.pers a (by rw [z]; simp))
  | pl i => exact r
  | ft ds s =>
    have old : ∀ {b : Addr}, H1 b = none → H b = none := fun {b} h0 => by
      cases z : H b with
      | none => rfl
      | some o => exact absurd h0 (g.pers b (by rw [z]; simp))
    obtain ⟨a, b, ys, u, e, h0, q1, q2, q3, q4, h0b, q⟩ := r
    exact ⟨a, b, ys, u, e, old h0, q1, q2, q3, q4, old h0b, q⟩
abbrev repA (Γ : Gm) (σ : L2.St) (H : Hp) : Hp → Hp → Env → A → V → Prop := fun F' H' ρ' a v => RepA Γ.K H F' H' σ ρ' a v
/-- an expression -/
def Tx (Γ : Gm) (φ : Phi) (W : WX) (c : E) : TE := fun σ H Q => ∃ F ρ, Ok Γ.K F H σ ρ ∧ Post Γ F H σ ρ W (ev φ c ρ) (repA Γ σ H) Q
/-- a test -/
def Tt (Γ : Gm) (φ : Phi) (W : WX) (c : T) : TT := fun σ H Q => ∃ F ρ, Ok Γ.K F H σ ρ ∧ Post Γ F H σ ρ W (evT φ c ρ) (fun _ _ _ a b => b = a) Q
/-- items, as data -/
def Ts (Γ : Gm) (φ : Phi) (W : WX) (c : Es) : TA := fun σ H Q => ∃ F ρ, Ok Γ.K F H σ ρ ∧ Post Γ F H σ ρ W (evs φ c ρ) (fun F' _ _ ds xs => Reps Γ.K F' ds xs) Q
/-- arguments of built-ins -/
def Tb (Γ : Gm) (φ : Phi) (W : WX) (c : Es) : TA := fun σ H Q => ∃ F ρ, Ok Γ.K F H σ ρ ∧ Post Γ F H σ ρ W (evG φ c ρ) (fun F' H' ρ' as xs => Paired (fun a v => RepA Γ.K H F' H' σ ρ' a v) as xs) Q
/-- a call's argument -/
def RepG (K : PySem.W.Frag) (F : Hp) (σ : L2.St) (g : Ag) (v : V) : Prop := match g with
  | .d x => Rep K F x v
  | .pl k => σ[k]? = some (some v)
def Tl (Γ : Gm) (φ : Phi) (W : WX) (c : Es) : TA := fun σ H Q => ∃ F ρ, Ok Γ.K F H σ ρ ∧ Post Γ F H σ ρ W (evL φ c ρ) (fun F' _ _ gs xs => Paired (RepG Γ.K F' σ) gs xs) Q
def To (Γ : Gm) (φ : Phi) (W : WX) (c : Eo) : TO := fun σ H Q => ∃ F ρ, Ok Γ.K F H σ ρ ∧ Post Γ F H σ ρ W (evO φ c ρ) (fun _ _ _ a b => b = a) Q
end
theorem PE.of {X : Cx} {e : Expr} {t t' : TE} (h : PE X e t) (i : ∀ σ H Q, t' σ H Q → t σ H Q) : PE X e t' := ⟨fun pins s σ H Q I q => h.run pins s σ H Q I (i σ H Q q)⟩
theorem PT.of {X : Cx} {e : Expr} {t t' : TT} (h : PT X e t) (i : ∀ σ H Q, t' σ H Q → t σ H Q) : PT X e t' := ⟨fun pins s σ H Q I q => h.run pins s σ H Q I (i σ H Q q)⟩
theorem PA.of {X : Cx} {e : List Expr} {t t' : TA} (h : PA X e t) (i : ∀ σ H Q, t' σ H Q → t σ H Q) : PA X e t' := ⟨fun pos pins s σ H Q I q => h.run pos pins s σ H Q I (i σ H Q q)⟩
theorem PO.of {X : Cx} {e : Option Expr} {t t' : TO} (h : PO X e t) (i : ∀ σ H Q, t' σ H Q → t σ H Q) : PO X e t' := ⟨fun pins s σ H Q I q => h.run pins s σ H Q I (i σ H Q q)⟩
theorem PW.of {X : Cx} {e : Expr} {t t' : TT} (h : PW X e t) (i : ∀ σ H Q, t' σ H Q → t σ H Q) : PW X e t' := ⟨fun w pins s σ H Q I q => h.run w pins s σ H Q I (i σ H Q q)⟩

section
variable {X : Cx} {Γ : Gm} {φ : Phi} {W : WX} {a b c e : Expr} {ca cb cc ce : E} {pos : Pos}
/-- freezing -/
theorem frz_pl {K : PySem.W.Frag} {F H : Hp} {σ : L2.St} {ρ : Env} {i : Nat} {v : V} (ok : Ok K F H σ ρ) (r : σ[i]? = some (some v) ∧ Live ρ i) {d : D} {ρ' : Env} (h : A.frz (.pl i) ρ = .ok d ρ') :
    ∃ F', Go K F H σ ρ F' H σ ρ' ∧ Rep K F' d v := by
    have h' : (match ρ[i]? with
      | some (.dat x) => R.ok x ρ
      | some (.own x) => R.ok x (ρ.set i (.dat x))
      | _ => R.stuck) = R.ok d ρ' := h
    cases q : ρ[i]? with
    | none => rw [q] at h'; cases h'
    | some w =>
      rw [q] at h'
      cases w with
      | dat x =>
        cases h'
        obtain ⟨e, _⟩ := r
        obtain ⟨u, eu, p⟩ := ok.dat i d q
        rw [e] at eu
        cases eu
        exact ⟨F, Go.refl ok, p⟩
      | own x =>
        cases h'
        obtain ⟨e, _⟩ := r
        obtain ⟨a, ea, f, c⟩ := ok.obj i d (.inl q)
        rw [e] at ea
        cases ea
        have hi : i < ρ.length := (List.getElem?_eq_some_iff.mp q).1
        have set_ne : ∀ {j : Nat}, j ≠ i → (ρ.set i (.dat d))[j]? = ρ[j]? := fun {j} hj => List.getElem?_set_ne (Ne.symm hj)
        have set_eq : (ρ.set i (.dat d))[i]? = some (.dat d) := by rw [List.getElem?_set_self hi]
        have heldj : ∀ j, Heldish (ρ.set i (.dat d)) j → j ≠ i ∧ Heldish ρ j := fun j ⟨x, hx⟩ => by
          by_cases hj : j = i
          · subst hj
            rw [set_eq] at hx
            rcases hx with z | z | z <;> cases z
          · rw [set_ne hj] at hx
            exact ⟨hj, x, hx⟩
        -- the object's content, frozen
        obtain ⟨xs, eo, rp⟩ := c.frzd
        exact by
          have fa : Same F (upd F a (.lst xs)) := Same.upd_new f
          refine ⟨upd F a (.lst xs), ⟨⟨?_, ?_, ?_, ?_, ?_⟩, fa, ?_, fun _ _ h _ => h, fun _ h => h, ?_, ?_, ?_, ?_, ?_⟩, ?_⟩
          · intro c o h
            by_cases hc : c = a
            · subst hc; rw [upd_same] at h; rw [← h]; exact eo
            · rw [upd_ne hc] at h; exact ok.le c o h
          · rw [List.length_set]; exact ok.len
          · intro j d' hj
            by_cases hji : j = i
            · subst hji
              rw [set_eq] at hj
              cases hj
              exact ⟨_, e, rp _ fa upd_same⟩
            · rw [set_ne hji] at hj
              obtain ⟨u, eu, p⟩ := ok.dat j d' hj
              exact ⟨u, eu, Rep.mono fa _ _ p⟩
          · intro j d' hj
            obtain ⟨hji, _⟩ := heldj j ⟨d', hj⟩
            rw [set_ne hji] at hj
            obtain ⟨b, eb, fb, cb⟩ := ok.obj j d' hj
            have hba : b ≠ a := fun z => by
              subst z
              exact hji (ok.inj j i b ⟨d', hj⟩ ⟨_, .inl q⟩ eb e)
            exact ⟨b, eb, by rw [upd_ne hba]; exact fb, cb.mono fa⟩
          · intro j k b hj hk e1 e2
            exact ok.inj j k b (heldj j hj).2 (heldj k hk).2 e1 e2
          · intro c h1 h2
            by_cases hc : c = a
            · subst hc; exact .inr ⟨i, ⟨_, .inl q⟩, e⟩
            · rw [upd_ne hc] at h1; exact absurd h2 h1
          · rintro c ⟨j, ⟨x, hx⟩, ej⟩
            have hh := heldj j ⟨x, by rcases hx with z | z; exact .inl z; exact .inr (.inl z)⟩
            rw [set_ne hh.1] at hx
            exact .inl ⟨j, ⟨x, hx⟩, ej⟩
          · intro j d' hj
            have hji : j ≠ i := fun z => by subst z; rw [q] at hj; cases hj
            exact ⟨by rw [set_ne hji]; exact hj, rfl⟩
          · intro j d' hj
            have hji := (heldj j ⟨d', .inr (.inr hj)⟩).1
            rw [set_ne hji] at hj
            exact ⟨hj, rfl⟩
          · intro j d' hj
            have hji : j ≠ i := fun z => by subst z; rw [q] at hj; cases hj
            exact ⟨d', by rw [set_ne hji]; exact hj, rfl⟩
          · rintro j ⟨w, hw, nw⟩
            by_cases hji : j = i
            · subst hji; exact ⟨_, set_eq, by simp⟩
            · exact ⟨w, by rw [set_ne hji]; exact hw, nw⟩
          · exact rp _ fa upd_same
      | _ => cases h'

theorem Go.frz {K : PySem.W.Frag} {F0 H0 F H : Hp} {σ0 σ : L2.St} {ρ0 ρ : Env} {α : A} {v : V} (g : Go K F0 H0 σ0 ρ0 F H σ ρ) (r : RepA K H0 F H σ ρ α v) {d : D} {ρ' : Env} (h : α.frz ρ = .ok d ρ') :
    ∃ F', Go K F0 H0 σ0 ρ0 F' H σ ρ' ∧ Rep K F' d v := by
  cases α with
  | d x => cases h; exact ⟨F, g, r⟩
  | pl i =>
    obtain ⟨F', g', p⟩ := frz_pl g.ok r h
    exact ⟨F', g.trans g', p⟩
  | fr x =>
    cases h
    obtain ⟨a, e, h0, f, nh, c⟩ := r
    subst e
    obtain ⟨xs, eo, rp⟩ := c.frzd
    exact by
      have fa : Same F (upd F a (.lst xs)) := Same.upd_new f
      refine ⟨upd F a (.lst xs), ⟨⟨fun c o h => ?_, g.ok.len, fun i d hd => ?_, fun i d hd => ?_, g.ok.inj⟩, g.grow.trans fa, fun c h1 h2 => ?_, g.frame, g.pers, g.sub, g.lckF, g.lckB, g.bor, g.live⟩, ?_⟩
      · by_cases hc : c = a
        · subst hc; rw [upd_same] at h; rw [← h]; exact eo
        · rw [upd_ne hc] at h; exact g.ok.le c o h
      · obtain ⟨u, eu, p⟩ := g.ok.dat i d hd
        exact ⟨u, eu, Rep.mono fa _ _ p⟩
      · obtain ⟨b, eb, fb, cb⟩ := g.ok.obj i d hd
        have hba : b ≠ a := fun z => by
          subst z
          exact nh ⟨i, ⟨d, hd⟩, eb⟩
        exact ⟨b, eb, by rw [upd_ne hba]; exact fb, cb.mono fa⟩
      · by_cases hc : c = a
        · subst hc; exact .inl h0
        · rw [upd_ne hc] at h1
          exact g.fnew c h1 h2
      · exact rp _ fa upd_same
  | ft ds s => cases h
theorem frz_exc {α : A} {ρ : Env} {x : Ex} {ρ' : Env} (h : α.frz ρ = .exc x ρ') : False := by
  cases α with
  | d x => cases h
  | fr x => cases h
  | pl i =>
    have h' : (match ρ[i]? with
      | some (.dat x) => R.ok x ρ
      | some (.own x) => R.ok x (ρ.set i (.dat x))
      | _ => R.stuck) = R.exc x ρ' := h
    split at h' <;> cases h'
  | ft ds s => cases h
end
end Pv

/-! Pv7: the rules of expressions, but calls and comprehensions. -/
namespace Pv
open PySem PySem.Spec L2
open PyProof.Rows hiding St
section
variable {X : Cx} {Γ : Gm} {φ : Phi} {W : WX} {a b c e : Expr} {es : List Expr} {ca cb cc ce : E} {ces : Es} {ta tb tc : T} {pos : Pos}

theorem rA_int {K : PySem.W.Frag} {H0 F H : Hp} {σ : L2.St} {ρ : Env} {i : Int} : RepA K H0 F H σ ρ (.d (.int i)) (.int i) := by show Rep K F (.int i) (.int i); exact Rep.int_
theorem rA_bl {K : PySem.W.Frag} {H0 F H : Hp} {σ : L2.St} {ρ : Env} {i : Bool} : RepA K H0 F H σ ρ (.d (.bl i)) (.bl i) := by show Rep K F (.bl i) (.bl i); exact Rep.bl_
theorem px_var {i : Nat} {x : Str} (hK : X.K = Γ.K) (hN : X.N[i]? = some x) (hv : Vis X.env.scope x) (hd : (x == ("__debug__" : Str)) = false) (hcd : (x == ("__classdict__" : Str)) = false) : PE X (.Name x pos) (Tx Γ φ W (.var i)) := by
  refine PE.of (pe_var hN hv hd hcd) fun σ H Q h => ?_
  obtain ⟨F, ρ, ok, h⟩ := h
  have h' : Post Γ F H σ ρ W (match ρ[i]? with
    | some (.dat d) => R.ok (A.d d) ρ
    | some (.own _) => .ok (.pl i) ρ
    | some (.bor _) => .ok (.pl i) ρ
    | some (.lck _) => .ok (.pl i) ρ
    | _ => .stuck) (repA Γ σ H) Q := by
    rw [ev] at h
    exact h
  cases q : ρ[i]? with
  | none => rw [q] at h'; exact h'.elim
  | some w =>
    rw [q] at h'
    cases w with
    | un => exact h'.elim
    | dat d =>
      obtain ⟨v, e, r⟩ := ok.dat i d q
      exact ⟨v, e, h' v F H (.refl ok) r⟩
    | own d =>
      obtain ⟨a, e, _⟩ := ok.obj i d (.inl q)
      exact ⟨_, e, h' _ F H (.refl ok) ⟨e, _, q, by simp⟩⟩
    | bor d =>
      obtain ⟨a, e, _⟩ := ok.obj i d (.inr (.inl q))
      exact ⟨_, e, h' _ F H (.refl ok) ⟨e, _, q, by simp⟩⟩
    | lck d =>
      obtain ⟨a, e, _⟩ := ok.obj i d (.inr (.inr q))
      exact ⟨_, e, h' _ F H (.refl ok) ⟨e, _, q, by simp⟩⟩
theorem px_cst {d : D} {v : V} (h : PE X e (tC v)) (r : Rep Γ.K (fun _ => none) d v) : PE X e (Tx Γ φ W (.cst d)) := by
  refine PE.of h fun σ H Q h => ?_
  obtain ⟨F, ρ, ok, h⟩ := h
  have h' : Post Γ F H σ ρ W (R.ok (A.d d) ρ) (repA Γ σ H) Q := by
    rw [ev] at h
    exact h
  exact h' v F H (.refl ok) (Rep.mono (fun b o e => by cases e) _ _ r)
theorem px_tup {k : Nat} (h : PA X es (Ts Γ φ W ces)) : PE X (.Tuple es k pos) (Tx Γ φ W (.tup ces)) := by
  refine PE.of (pe_tup h) fun σ H Q h => ?_
  obtain ⟨F, ρ, ok, h⟩ := h
  rw [ev] at h
  refine ⟨F, ρ, ok, Post.bnd h fun ds ρ' h' xs F' H' g r => ?_⟩
  have hl : (sizeLine : Nat) = 16777216 := sizeLine_eq
  by_cases hz : ds.length ≤ Line
  · rw [if_pos hz] at h'
    refine ⟨by rw [← Reps.length r, hl]; exact hz, fun p hp => ?_⟩
    exact h' _ _ _ (g.trans (Ext.go g.ok (.frozen (o := .tup xs) g.ok.le hp))) (Rep.tup_ upd_same (Reps.mono (Same.upd_new (free_le g.ok.le hp)) _ _ r))
  · rw [if_neg hz] at h'
    exact h'.elim
theorem px_lst (h : PA X es (Ts Γ φ W ces)) : PE X (.List es pos) (Tx Γ φ W (.lst ces)) := by
  refine PE.of (pe_lst h) fun σ H Q h => ?_
  obtain ⟨F, ρ, ok, h⟩ := h
  rw [ev] at h
  refine ⟨F, ρ, ok, Post.bnd h fun ds ρ' h' xs F' H' g r => ?_⟩
  have hl : (sizeLine : Nat) = 16777216 := sizeLine_eq
  by_cases hz : ds.length ≤ Line
  · rw [if_pos hz] at h'
    refine ⟨by rw [← Reps.length r, hl]; exact hz, fun p hp => ?_⟩
    have x : Ext F' H' F' (upd H' p (.lst xs)) := .fresh g.ok.le hp
    refine h' _ _ _ (g.trans (Ext.go g.ok x)) (RepA.back g (NewA.rep g.ok x ?_))
    exact ⟨p, rfl, hp, free_le g.ok.le hp, xs, upd_same, r⟩
  · rw [if_neg hz] at h'
    exact h'.elim
/-- two expressions, then an operation on their data -/
theorem two_D {f : D → D → Option A} {σ : L2.St} {H : Hp} {Q : VK} {F : Hp} {ρ : Env} (hK : X.K = Γ.K) (ok : Ok Γ.K F H σ ρ)
    (h : Post Γ F H σ ρ W ((ev φ ca ρ).bind fun x ρ => (ev φ cb ρ).bind fun y ρ => R.of ((x.get ρ).bind fun dx => (y.get ρ).bind fun dy => f dx dy) ρ) (repA Γ σ H) Q) :
    tOp (rD X.K f) (Tx Γ φ W ca) (Tx Γ φ W cb) σ H Q := by
  refine ⟨F, ρ, ok, Post.bnd h fun x ρ1 h v F1 H1 g1 r1 => ⟨F1, ρ1, g1.ok, Post.bnd (h.from g1 fun _ _ _ _ _ z => RepA.back g1 z) fun y ρ2 h u F2 H2 g2 r2 => ?_⟩⟩
  obtain ⟨γ, e, h⟩ := h.opt
  obtain ⟨dx, e1, e⟩ := Option.bind_eq_some_iff.mp e
  obtain ⟨dy, e2, e⟩ := Option.bind_eq_some_iff.mp e
  rw [hK]
  refine ⟨F2, dx, dy, γ, g2.ok.le, RepA.rd g2.ok (RepA.step r1 g2) e1, RepA.rd g2.ok r2 e2, e, fun v F' H' x n => ?_⟩
  exact h v F' H' (g2.trans (Ext.go g2.ok x)) (RepA.back g2 (NewA.rep g2.ok x n))
theorem two_C {f : D → D → Option Bool} {σ : L2.St} {H : Hp} {Q : VK} {F : Hp} {ρ : Env} (hK : X.K = Γ.K) (ok : Ok Γ.K F H σ ρ)
    (h : Post Γ F H σ ρ W ((ev φ ca ρ).bind fun x ρ => (ev φ cb ρ).bind fun y ρ => R.of (((x.get ρ).bind fun dx => (y.get ρ).bind fun dy => f dx dy).map fun k => A.d (.bl k)) ρ) (repA Γ σ H) Q) :
    tOp (rC X.K f) (Tx Γ φ W ca) (Tx Γ φ W cb) σ H Q := by
  refine ⟨F, ρ, ok, Post.bnd h fun x ρ1 h v F1 H1 g1 r1 => ⟨F1, ρ1, g1.ok, Post.bnd (h.from g1 fun _ _ _ _ _ z => RepA.back g1 z) fun y ρ2 h u F2 H2 g2 r2 => ?_⟩⟩
  obtain ⟨γ, e, h⟩ := h.opt
  obtain ⟨k, e', rfl⟩ := Option.map_eq_some_iff.mp e
  obtain ⟨dx, e1, e''⟩ := Option.bind_eq_some_iff.mp e'
  obtain ⟨dy, e2, e3⟩ := Option.bind_eq_some_iff.mp e''
  rw [hK]
  exact ⟨F2, dx, dy, k, g2.ok.le, RepA.rd g2.ok (RepA.step r1 g2) e1, RepA.rd g2.ok r2 e2, e3, h _ F2 H2 g2 rA_bl⟩
theorem px_bin {op : Operator} (hK : X.K = Γ.K) (ha : PE X a (Tx Γ φ W ca)) (hb : PE X b (Tx Γ φ W cb)) : PE X (.BinOp a op b pos) (Tx Γ φ W (.bin op ca cb)) := by
  refine PE.of (pe_op (op_binD op) ha hb) fun σ H Q h => ?_
  obtain ⟨F, ρ, ok, h⟩ := h
  rw [ev] at h
  exact two_D hK ok h
theorem px_neg (hK : X.K = Γ.K) (ha : PE X a (Tx Γ φ W ca)) : PE X (.UnaryOp .USub a pos) (Tx Γ φ W (.neg ca)) := by
  refine PE.of (pe_un un_neg ha) fun σ H Q h => ?_
  obtain ⟨F, ρ, ok, h⟩ := h
  rw [ev] at h
  refine ⟨F, ρ, ok, Post.bnd h fun x ρ1 h v F1 H1 g1 r1 => ?_⟩
  cases q : x.get ρ1 with
  | none => rw [q] at h; exact h.elim
  | some d =>
    rw [q] at h
    cases d with
    | int i =>
      obtain rfl := (RepA.rd g1.ok r1 q).int
      exact ⟨i, rfl, h _ F1 H1 g1 rA_int⟩
    | _ => exact h.elim
theorem px_cmp {op : CmpOp} (hK : X.K = Γ.K) (hu : X.A.units + 64 < cLine) (ha : PE X a (Tx Γ φ W ca)) (hb : PE X b (Tx Γ φ W cb)) (hm : behindInMarks op b = false) : PE X (.Compare a [op] [b] pos) (Tx Γ φ W (.cmp op ca cb)) := by
  refine PE.of (pe_cmpR (op_cmpD op hu) ha hb hm) fun σ H Q h => ?_
  obtain ⟨F, ρ, ok, h⟩ := h
  rw [ev] at h
  exact two_C hK ok h
/-- a op1 b op2 c -/
theorem three_C {op op' : CmpOp} {σ : L2.St} {H : Hp} {Q : VK} (hK : X.K = Γ.K) (h : Tx Γ φ W (.cmp2 op op' ca cb cc) σ H Q) : tChain (rC X.K (cmpD op)) (rC X.K (cmpD op')) (Tx Γ φ W ca) (Tx Γ φ W cb) (Tx Γ φ W cc) σ H Q := by
  obtain ⟨F, ρ, ok, h⟩ := h
  rw [ev] at h
  refine ⟨F, ρ, ok, Post.bnd h fun x ρ1 h v F1 H1 g1 r1 => ⟨F1, ρ1, g1.ok, Post.bnd (h.from g1 fun _ _ _ _ _ z => RepA.back g1 z) fun y ρ2 h u F2 H2 g2 r2 => ?_⟩⟩
  cases q : (x.get ρ2).bind fun dx => (y.get ρ2).bind fun dy => cmpD op dx dy with
  | none => rw [q] at h; exact h.elim
  | some k =>
    rw [q] at h
    obtain ⟨dx, e1, e⟩ := Option.bind_eq_some_iff.mp q
    obtain ⟨dy, e2, e⟩ := Option.bind_eq_some_iff.mp e
    rw [hK]
    refine ⟨F2, dx, dy, k, g2.ok.le, RepA.rd g2.ok (RepA.step r1 g2) e1, RepA.rd g2.ok r2 e2, e, k, rfl, ?_⟩
    cases k with
    | false =>
      rw [if_neg Bool.false_ne_true]
      exact h _ F2 H2 g2 rA_bl
    | true =>
      rw [if_pos rfl]
      refine ⟨F2, ρ2, g2.ok, Post.bnd (h.from g2 fun _ _ _ _ _ z => RepA.back g2 z) fun z ρ3 h w F3 H3 g3 r3 => ?_⟩
      obtain ⟨γ, e4, h⟩ := h.opt
      obtain ⟨k, e5, rfl⟩ := Option.map_eq_some_iff.mp e4
      obtain ⟨dy', e6, e7⟩ := Option.bind_eq_some_iff.mp e5
      obtain ⟨dz, e8, e9⟩ := Option.bind_eq_some_iff.mp e7
      exact ⟨F3, dy', dz, k, g3.ok.le, RepA.rd g3.ok (RepA.step r2 g3) e6, RepA.rd g3.ok r3 e8, e9, h _ F3 H3 g3 rA_bl⟩
theorem px_cmp2 {op op' : CmpOp} (hK : X.K = Γ.K) (hu : X.A.units + 64 < cLine) (ha : PE X a (Tx Γ φ W ca)) (hb : PE X b (Tx Γ φ W cb)) (hc : PE X c (Tx Γ φ W cc)) (hm : lastMarks [op, op'] [b, c] = false) :
    PE X (.Compare a [op, op'] [b, c] pos) (Tx Γ φ W (.cmp2 op op' ca cb cc)) :=
  PE.of (pe_chain (op_cmpD op hu) (op_cmpD op' hu) ha hb hc hm) fun σ H Q h => three_C hK h
theorem px_and {rest : List Expr} (ha : PE X a (Tx Γ φ W ca)) (hb : PE X (.BoolOp .And (b :: rest) pos) (Tx Γ φ W cb)) : PE X (.BoolOp .And (a :: b :: rest) pos) (Tx Γ φ W (.and ca cb)) := by
  refine PE.of (pe_and ha hb) fun σ H Q h => ?_
  obtain ⟨F, ρ, ok, h⟩ := h
  rw [ev] at h
  refine ⟨F, ρ, ok, Post.bnd h fun x ρ1 h v F1 H1 g1 r1 => ?_⟩
  cases x with
  | d x =>
    cases x with
    | bl k =>
      have r1' : Rep Γ.K F1 (.bl k) v := r1
      rw [Rep] at r1'
      subst r1'
      refine ⟨k, rfl, ?_⟩
      cases k with
      | true =>
        rw [if_pos rfl]
        exact ⟨F1, ρ1, g1.ok, Post.from h g1 fun _ _ _ _ _ z => RepA.back g1 z⟩
      | false =>
        rw [if_neg Bool.false_ne_true]
        exact h _ F1 H1 g1 rA_bl
    | _ => exact h.elim
  | _ => exact h.elim
theorem px_or {rest : List Expr} (ha : PE X a (Tx Γ φ W ca)) (hb : PE X (.BoolOp .Or (b :: rest) pos) (Tx Γ φ W cb)) : PE X (.BoolOp .Or (a :: b :: rest) pos) (Tx Γ φ W (.or ca cb)) := by
  refine PE.of (pe_or ha hb) fun σ H Q h => ?_
  obtain ⟨F, ρ, ok, h⟩ := h
  rw [ev] at h
  refine ⟨F, ρ, ok, Post.bnd h fun x ρ1 h v F1 H1 g1 r1 => ?_⟩
  cases x with
  | d x =>
    cases x with
    | bl k =>
      have r1' : Rep Γ.K F1 (.bl k) v := r1
      rw [Rep] at r1'
      subst r1'
      refine ⟨k, rfl, ?_⟩
      cases k with
      | false =>
        rw [if_neg Bool.false_ne_true]
        exact ⟨F1, ρ1, g1.ok, Post.from h g1 fun _ _ _ _ _ z => RepA.back g1 z⟩
      | true =>
        rw [if_pos rfl]
        exact h _ F1 H1 g1 rA_bl
    | _ => exact h.elim
  | _ => exact h.elim
theorem px_not (ha : PE X a (Tx Γ φ W ca)) : PE X (.UnaryOp .Not a pos) (Tx Γ φ W (.not ca)) := by
  refine PE.of (pe_not ha) fun σ H Q h => ?_
  obtain ⟨F, ρ, ok, h⟩ := h
  rw [ev] at h
  refine ⟨F, ρ, ok, Post.bnd h fun x ρ1 h v F1 H1 g1 r1 => ?_⟩
  cases x with
  | d x =>
    cases x with
    | bl k =>
      have r1' : Rep Γ.K F1 (.bl k) v := r1
      rw [Rep] at r1'
      subst r1'
      exact ⟨k, rfl, h _ F1 H1 g1 rA_bl⟩
    | _ => exact h.elim
  | _ => exact h.elim
theorem px_ife (ht : PT X c (Tt Γ φ W tc)) (ha : PE X a (Tx Γ φ W ca)) (hb : PE X b (Tx Γ φ W cb)) : PE X (.IfExp c a b pos) (Tx Γ φ W (.ife tc ca cb)) := by
  refine PE.of (pe_ifExp ht ha hb) fun σ H Q h => ?_
  obtain ⟨F, ρ, ok, h⟩ := h
  rw [ev] at h
  refine ⟨F, ρ, ok, Post.bnd h fun k ρ1 h k' F1 H1 g1 r1 => ?_⟩
  subst r1
  cases k' with
  | true =>
    rw [if_pos rfl] at h ⊢
    exact ⟨F1, ρ1, g1.ok, Post.from h g1 fun _ _ _ _ _ z => RepA.back g1 z⟩
  | false =>
    rw [if_neg Bool.false_ne_true] at h ⊢
    exact ⟨F1, ρ1, g1.ok, Post.from h g1 fun _ _ _ _ _ z => RepA.back g1 z⟩
theorem px_ix (hK : X.K = Γ.K) (ha : PE X a (Tx Γ φ W ca)) (hb : PE X b (Tx Γ φ W cb)) (hs : PlainIx b) : PE X (.Subscript a b pos) (Tx Γ φ W (.ix ca cb)) := by
  refine PE.of (pe_ix ix_D ha hb hs) fun σ H Q h => ?_
  obtain ⟨F, ρ, ok, h⟩ := h
  rw [ev] at h
  refine ⟨F, ρ, ok, Post.bnd h fun x ρ1 h v F1 H1 g1 r1 => ⟨F1, ρ1, g1.ok, Post.bnd (h.from g1 fun _ _ _ _ _ z => RepA.back g1 z) fun y ρ2 h u F2 H2 g2 r2 => ?_⟩⟩
  obtain ⟨γ, e0, h⟩ := h.opt
  obtain ⟨d, e3, rfl⟩ := Option.map_eq_some_iff.mp e0
  obtain ⟨dx, e1, e4⟩ := Option.bind_eq_some_iff.mp e3
  obtain ⟨dy, e2, e5⟩ := Option.bind_eq_some_iff.mp e4
  rw [hK]
  exact ⟨F2, dx, dy, d, g2.ok.le, RepA.rd g2.ok (RepA.step r1 g2) e1, RepA.rd g2.ok r2 e2, e5, fun w p => h w F2 H2 g2 p⟩
theorem px_sl {lo hi : Option Expr} {clo chi : Eo} {p2 : Pos} (hK : X.K = Γ.K) (ha : PE X a (Tx Γ φ W ca)) (hl : PO X lo (To Γ φ W clo)) (hh : PO X hi (To Γ φ W chi)) : PE X (.Subscript a (.Slice lo hi none p2) pos) (Tx Γ φ W (.sl ca clo chi)) := by
  refine PE.of (pe_slice sl_D ha hl hh) fun σ H Q h => ?_
  obtain ⟨F, ρ, ok, h⟩ := h
  rw [ev] at h
  refine ⟨F, ρ, ok, Post.bnd h fun x ρ1 h v F1 H1 g1 r1 => ⟨F1, ρ1, g1.ok, Post.bnd (h.from g1 fun _ _ _ _ _ z => RepA.back g1 z) fun l ρ2 h l' F2 H2 g2 r2 => ⟨F2, ρ2, g2.ok, Post.bnd (h.from g2 fun _ _ _ _ _ z => RepA.back g2 z) fun m ρ3 h m' F3 H3 g3 r3 => ?_⟩⟩⟩
  subst r2 r3
  obtain ⟨γ, e, h⟩ := h.opt
  obtain ⟨dx, e1, e⟩ := Option.bind_eq_some_iff.mp e
  rw [hK]
  refine ⟨F3, dx, γ, g3.ok.le, RepA.rd g3.ok (RepA.step (RepA.step r1 g2) g3) e1, e, fun w F' H' x n => ?_⟩
  exact h w F' H' (g3.trans (Ext.go g3.ok x)) (RepA.back g3 (NewA.rep g3.ok x n))
theorem po_no : PO X none (To Γ φ W .no) := by
  refine PO.of po_none fun σ H Q h => ?_
  obtain ⟨F, ρ, ok, h⟩ := h
  rw [evO] at h
  exact h _ F H (.refl ok) rfl
theorem po_so (he : PE X e (Tx Γ φ W ce)) : PO X (some e) (To Γ φ W (.so ce)) := by
  refine PO.of (po_some he) fun σ H Q h => ?_
  obtain ⟨F, ρ, ok, h⟩ := h
  rw [evO] at h
  refine ⟨F, ρ, ok, Post.bnd h fun x ρ1 h v F1 H1 g1 r1 => ?_⟩
  cases x with
  | d x =>
    cases x with
    | int k =>
      have r1' : Rep Γ.K F1 (.int k) v := r1
      rw [Rep] at r1'
      subst r1'
      exact ⟨k, rfl, h _ F1 H1 g1 rfl⟩
    | _ => exact h.elim
  | _ => exact h.elim

/-! ### lists of expressions -/
theorem ps_nil : PA X [] (Ts Γ φ W .nil) := by
  refine PA.of pa_nil fun σ H Q h => ?_
  obtain ⟨F, ρ, ok, h⟩ := h
  rw [evs] at h
  exact h _ F H (.refl ok) .nil
theorem ps_cons {m : Bool} (he : PE X e (Tx Γ φ W ce)) (hr : PA X es (Ts Γ φ W ces)) (hs : starEach (e :: es) X.env = (false, eval e X.env) :: starEach es X.env) : PA X (e :: es) (Ts Γ φ W (.cons m ce ces)) := by
  refine PA.of (pa_cons he hr hs) fun σ H Q h => ?_
  obtain ⟨F, ρ, ok, h⟩ := h
  rw [evs] at h
  refine ⟨F, ρ, ok, Post.bnd h fun x ρ1 h v F1 H1 g1 r1 => ?_⟩
  cases q : x.frz ρ1 with
  | stuck => rw [q] at h; exact h.elim
  | exc y ρ' => exact (frz_exc q).elim
  | ok d ρ2 =>
    rw [q] at h
    obtain ⟨F2, g2, p2⟩ := g1.frz r1 q
    refine ⟨F2, ρ2, g2.ok, Post.bnd (Post.from (rep1 := fun F' _ _ ds xs => Reps Γ.K F' ds xs) h g2 fun _ _ _ _ _ z => z) fun ds ρ3 h xs F3 H3 g3 r3 => ?_⟩
    exact h (v :: xs) F3 H3 g3 (.cons (Rep.mono g3.grow _ _ p2) r3)
theorem pb_nil : PA X [] (Tb Γ φ W .nil) := by
  refine PA.of pa_nil fun σ H Q h => ?_
  obtain ⟨F, ρ, ok, h⟩ := h
  rw [evG] at h
  exact h _ F H (.refl ok) .nil
theorem pb_cons {m : Bool} (he : PE X e (Tx Γ φ W ce)) (hr : PA X es (Tb Γ φ W ces)) (hs : starEach (e :: es) X.env = (false, eval e X.env) :: starEach es X.env) : PA X (e :: es) (Tb Γ φ W (.cons m ce ces)) := by
  refine PA.of (pa_cons he hr hs) fun σ H Q h => ?_
  obtain ⟨F, ρ, ok, h⟩ := h
  rw [evG] at h
  refine ⟨F, ρ, ok, Post.bnd h fun x ρ1 h v F1 H1 g1 r1 => ⟨F1, ρ1, g1.ok, Post.bnd (Post.from h g1 fun _ _ _ _ _ z => z) fun as ρ2 h xs F2 H2 g2 r2 => ?_⟩⟩
  exact h (v :: xs) F2 H2 g2 (.cons (RepA.step r1 g2) (L2.Paired.mapP r2 fun _ _ y => RepA.back g1 y))
end
end Pv

/-! Pv8: built-ins, methods, tests, calls. -/
namespace Pv
open PySem PySem.Spec L2
open PyProof.Rows hiding St
section
variable {X : Cx} {Γ : Gm} {φ : Phi} {W : WX} {a b c e : Expr} {es : List Expr} {ca cb cc ce : E} {ces : Es} {ta tb tc : T} {pos p : Pos} {x : Str}
theorem gets_rd {K : PySem.W.Frag} {H0 F H : Hp} {σ : L2.St} {ρ : Env} (ok : Ok K F H σ ρ) : ∀ {as : List A} {xs : List V} {ds : List D}, Paired (fun a v => RepA K H0 F H σ ρ a v) as xs → getsA as ρ = some ds → RdDs K F H ds xs
  | [], _, ds, r, h => by cases r; cases h; exact .nil
  | a :: as, _, ds, r, h => by
    cases r with
    | cons r1 r2 =>
      obtain ⟨d, e1, h⟩ := Option.bind_eq_some_iff.mp (show (a.get ρ).bind (fun d => (getsA as ρ).map (d :: ·)) = some ds from h)
      obtain ⟨ds', e2, rfl⟩ := Option.map_eq_some_iff.mp h
      exact .cons (RepA.rd ok r1 e1) (gets_rd ok r2 e2)
theorem many_D {f : List D → Option A} {n : Nat} {σ : L2.St} {H : Hp} {Q : VK} (hK : X.K = Γ.K) (hf : biD n = f) (h : Tx Γ φ W (.bi n ces) σ H Q) : tCB (rB X.K f) (Tb Γ φ W ces) σ H Q := by
  obtain ⟨F, ρ, ok, h⟩ := h
  rw [ev] at h
  refine ⟨F, ρ, ok, Post.bnd h fun as ρ1 h xs F1 H1 g1 r1 => ?_⟩
  obtain ⟨γ, e0, h⟩ := h.opt
  obtain ⟨ds, e1, e2⟩ := Option.bind_eq_some_iff.mp e0
  rw [hK, ← hf]
  refine ⟨F1, ds, γ, g1.ok.le, gets_rd g1.ok r1 e1, e2, fun v F' H' x n => ?_⟩
  exact h v F' H' (g1.trans (Ext.go g1.ok x)) (RepA.back g1 (NewA.rep g1.ok x n))
theorem px_biB {id : String} {f : List D → Option A} {n : Nat} (hK : X.K = Γ.K) (hc : CallR X (.builtin id) (rB X.K f)) (hf : biD n = f) (hg : Gl X x) (hm : X.mg x = none) (hv : bootBuiltins x = some (.builtin id)) (ha : PA X (e :: es) (Tb Γ φ W ces))
    (hn : x ≠ "__name__") (hdb : (x == ("__debug__" : Str)) = false) (he : starEach (e :: es) X.env = (false, eval e X.env) :: starEach es X.env) (hpl : (backTo pos (starEach es X.env)).any (·.1) = false) :
    PE X (.Call (.Name x p) (e :: es) [] pos) (Tx Γ φ W (.bi n ces)) :=
  PE.of (pe_callB hc hg hm hv ha hn hdb he hpl) fun σ H Q h => many_D hK hf h
theorem px_biT {id : String} {f : List D → Option A} {n : Nat} (hK : X.K = Γ.K) (hc : CallR X (.type id) (rB X.K f)) (hf : biD n = f) (hg : Gl X x) (hm : X.mg x = none) (hv : bootBuiltins x = some (.type id)) (ha : PA X (e :: es) (Tb Γ φ W ces))
    (hn : x ≠ "__name__") (hdb : (x == ("__debug__" : Str)) = false) (he : starEach (e :: es) X.env = (false, eval e X.env) :: starEach es X.env) (hpl : (backTo pos (starEach es X.env)).any (·.1) = false) :
    PE X (.Call (.Name x p) (e :: es) [] pos) (Tx Γ φ W (.bi n ces)) :=
  PE.of (pe_callTy hc hg hm hv ha hn hdb he hpl) fun σ H Q h => many_D hK hf h
/-- isinstance(a, T), T a built-in class's name -/
theorem px_isi {n : Nat} {T : String} {y : Str} {p2 : Pos} (hK : X.K = Γ.K) (ht : tyName n = some T) (hg : Gl X "isinstance") (hm : X.mg "isinstance" = none) (hgy : Gl X y) (hmy : X.mg y = none) (hvy : bootBuiltins y = some (.type T)) (hny : y ≠ "__name__") (hdy : (y == ("__debug__" : Str)) = false)
    (ha : PE X a (Tx Γ φ W ca)) (he : starEach [a, .Name y p2] X.env = (false, eval a X.env) :: starEach [.Name y p2] X.env) :
    PE X (.Call (.Name "isinstance" p) [a, .Name y p2] [] pos) (Tx Γ φ W (.isi ca n)) := by
  refine PE.of (pe_callB call_isi hg hm (by decide +kernel) (pa_cons ha (pa_cons (pe_bltn (v := .ty T) hgy hmy hvy rfl hny hdy) pa_nil) he) (by decide) (by decide) he) fun σ H Q h => ?_
  obtain ⟨F, ρ, ok, h⟩ := h
  rw [ev] at h
  refine ⟨F, ρ, ok, Post.bnd h fun x ρ1 h v F1 H1 g1 r1 => ?_⟩
  obtain ⟨γ, e0, h⟩ := h.opt
  obtain ⟨d, e1, e2⟩ := Option.bind_eq_some_iff.mp e0
  obtain ⟨kk, e3, rfl⟩ := Option.map_eq_some_iff.mp e2
  obtain rfl := isiO_D e3
  show rIsi X.K [v, .ty T] H1 Q
  rw [hK]
  exact ⟨v, .ty T, _, _, _, rfl, .ty T, (RepA.rd g1.ok r1 e1).ty e3 g1.ok.le, isi_kit ht, h _ F1 H1 g1 rA_bl⟩
/-- o.m(e) of a text -/
theorem px_mt1 {n : Nat} {f : D → D → Option A} {id : String} {name : Str} {apos cpos : Pos} (hK : X.K = Γ.K) (pa : PlainAttrs "str") (slot : Slot "str" name id) (hty : typeOf (.builtin id) = pure (.type "method_descriptor")) (hm : MtR X id (rM1 X.K f)) (hf : mt1D n = f)
    (ho : PE X a (Tx Γ φ W ca)) (he : PE X e (Tx Γ φ W ce))
    (hbase : attributeBase a name X.env (eval a X.env) = eval a X.env) (hline : (apos.endLine == cpos.line) = true) (hs : starEach [e] X.env = (false, eval e X.env) :: starEach [] X.env) :
    PE X (.Call (.Attribute a name apos) [e] [] cpos) (Tx Γ φ W (.mt1 n ca ce)) := by
  refine PE.of (pe_bm pa slot hty hm ho (pa_cons he pa_nil hs) hbase (by rw [hs]; rfl) hline hs rfl) fun σ H Q h => ?_
  obtain ⟨F, ρ, ok, h⟩ := h
  rw [ev] at h
  refine ⟨F, ρ, ok, Post.bnd h fun x ρ1 h v F1 H1 g1 r1 => ?_⟩
  cases x with
  | d x =>
    cases x with
    | str s =>
      have r1' : Rep Γ.K F1 (.str s) v := r1
      rw [Rep] at r1'
      subst r1'
      refine ⟨rfl, F1, ρ1, g1.ok, Post.bnd (Post.from h g1 fun _ _ _ _ _ z => RepA.back g1 z) fun y ρ2 h u F2 H2 g2 r2 => ?_⟩
      obtain ⟨γ, e0, h⟩ := h.opt
      obtain ⟨dy, e1, e2⟩ := Option.bind_eq_some_iff.mp e0
      show rM1 X.K f (.str s) [u] H2 Q
      rw [hK, ← hf]
      refine ⟨F2, .str s, dy, u, γ, rfl, g2.ok.le, .inl .str_, RepA.rd g2.ok r2 e1, e2, fun v F' H' x n => ?_⟩
      exact h v F' H' (g2.trans (Ext.go g2.ok x)) (RepA.back g2 (NewA.rep g2.ok x n))
    | _ => exact h.elim
  | _ => exact h.elim

/-! ### tests -/
theorem pt_gen (hK : X.K = Γ.K) (ha : PE X a (Tx Γ φ W ca)) (hi : ∀ whole, isTrue a X.env whole = (do let v ← whole; standAt a.pos; holding [v] (truthy v))) : PT X a (Tt Γ φ W (.val ca)) := by
  refine PT.of (pt_truth ha hi) fun σ H Q h => ?_
  obtain ⟨F, ρ, ok, h⟩ := h
  rw [evT] at h
  refine ⟨F, ρ, ok, Post.bnd h fun x ρ1 h v F1 H1 g1 r1 => ?_⟩
  obtain ⟨k, e0, h⟩ := h.opt
  obtain ⟨d, e1, e2⟩ := Option.bind_eq_some_iff.mp e0
  rw [hK]
  exact ⟨k, tru_D g1.ok.le (RepA.rd g1.ok r1 e1) e2, h k F1 H1 g1 rfl⟩
/-- a comparison's value, tested -/
theorem cmp_test {t : TE} {σ : L2.St} {H : Hp} {Q : Bool → Hp → Prop} (h : Tt Γ φ W (.val ca) σ H Q) (k : ∀ Q', Tx Γ φ W ca σ H Q' → t σ H Q') (only : ∀ (ρ ρ' : Env) (x : A), ev φ ca ρ = .ok x ρ' → ∃ b, x = .d (.bl b)) : tTest t σ H Q := by
  refine k _ ?_
  obtain ⟨F, ρ, ok, h⟩ := h
  rw [evT] at h
  refine ⟨F, ρ, ok, ?_⟩
  have o := only ρ
  cases q : ev φ ca ρ with
  | stuck => rw [q] at h; exact h.elim
  | exc x ρ' => rw [q] at h; exact h
  | ok x ρ1 =>
    rw [q] at h
    obtain ⟨b, rfl⟩ := o ρ1 x q
    intro v F1 H1 g1 r1
    have r1' : Rep Γ.K F1 (.bl b) v := r1
    rw [Rep] at r1'
    subst r1'
    exact ⟨b, rfl, h b F1 H1 g1 rfl⟩
theorem R.of_ok {α : Type} {o : Option α} {ρ ρ' : Env} {a : α} (h : R.of o ρ = .ok a ρ') : o = some a ∧ ρ' = ρ := by
  cases o with
  | none => cases h
  | some b => cases h; exact ⟨rfl, rfl⟩
theorem R.bind_inv {α β : Type} {r : R α} {f : α → Env → R β} {b : β} {ρ : Env} (h : r.bind f = .ok b ρ) : ∃ a ρ', r = .ok a ρ' ∧ f a ρ' = .ok b ρ := by
  cases r with
  | ok a ρ' => exact ⟨a, ρ', rfl, h⟩
  | exc x ρ' => cases h
  | stuck => cases h
theorem only_cmp {op : CmpOp} (ρ ρ' : Env) (x : A) (h : ev φ (.cmp op ca cb) ρ = .ok x ρ') : ∃ b, x = .d (.bl b) := by
  rw [ev] at h
  obtain ⟨_, _, _, h⟩ := R.bind_inv h
  obtain ⟨_, _, _, h⟩ := R.bind_inv h
  obtain ⟨e, _⟩ := R.of_ok h
  obtain ⟨k, _, rfl⟩ := Option.map_eq_some_iff.mp e
  exact ⟨k, rfl⟩
theorem only_cmp2 {op op' : CmpOp} (ρ ρ' : Env) (x : A) (h : ev φ (.cmp2 op op' ca cb cc) ρ = .ok x ρ') : ∃ b, x = .d (.bl b) := by
  rw [ev] at h
  obtain ⟨x1, ρ1, _, h⟩ := R.bind_inv h
  obtain ⟨x2, ρ2, _, h⟩ := R.bind_inv h
  split at h
  · obtain ⟨_, _, _, h⟩ := R.bind_inv h
    obtain ⟨e, _⟩ := R.of_ok h
    obtain ⟨k, _, rfl⟩ := Option.map_eq_some_iff.mp e
    exact ⟨k, rfl⟩
  · cases h
    exact ⟨_, rfl⟩
  · cases h
theorem pt_cmp_ {op : CmpOp} (hK : X.K = Γ.K) (hu : X.A.units + 64 < cLine) (ha : PE X a (Tx Γ φ W ca)) (hb : PE X b (Tx Γ φ W cb)) (hm : behindInMarks op b = false) : PT X (.Compare a [op] [b] pos) (Tt Γ φ W (.val (.cmp op ca cb))) :=
  PT.of (pt_cmpR (op_cmpD op hu) ha hb hm) fun σ H Q h => cmp_test h (fun Q' h => by
    obtain ⟨F, ρ, ok, h⟩ := h
    rw [ev] at h
    exact two_C hK ok h) only_cmp
theorem pt_cmp2_ {op op' : CmpOp} (hK : X.K = Γ.K) (hu : X.A.units + 64 < cLine) (ha : PE X a (Tx Γ φ W ca)) (hb : PE X b (Tx Γ φ W cb)) (hc : PE X c (Tx Γ φ W cc)) (hm : lastMarks [op, op'] [b, c] = false) : PT X (.Compare a [op, op'] [b, c] pos) (Tt Γ φ W (.val (.cmp2 op op' ca cb cc))) :=
  PT.of (pt_chain (op_cmpD op hu) (op_cmpD op' hu) ha hb hc hm) fun σ H Q h => cmp_test h (fun Q' h => three_C hK h) only_cmp2
theorem pt_not_ (ha : PT X a (Tt Γ φ W ta)) : PT X (.UnaryOp .Not a pos) (Tt Γ φ W (.not ta)) := by
  refine PT.of (pt_not ha) fun σ H Q h => ?_
  obtain ⟨F, ρ, ok, h⟩ := h
  rw [evT] at h
  refine ⟨F, ρ, ok, Post.bnd h fun k ρ1 h k' F1 H1 g1 r1 => ?_⟩
  subst r1
  exact h _ F1 H1 g1 rfl
theorem pw_and1_ (ha : PT X a (Tt Γ φ W ta)) : PW X (.BoolOp .And [a] pos) (Tt Γ φ W ta) := pw_and1 ha
theorem pw_or1_ (ha : PT X a (Tt Γ φ W ta)) : PW X (.BoolOp .Or [a] pos) (Tt Γ φ W ta) := pw_or1 ha
theorem pw_and_ {rest : List Expr} (ha : PT X a (Tt Γ φ W ta)) (hb : PW X (.BoolOp .And (b :: rest) pos) (Tt Γ φ W tb)) : PW X (.BoolOp .And (a :: b :: rest) pos) (Tt Γ φ W (.and ta tb)) := by
  refine PW.of (pw_and ha hb) fun σ H Q h => ?_
  obtain ⟨F, ρ, ok, h⟩ := h
  rw [evT] at h
  refine ⟨F, ρ, ok, Post.bnd h fun k ρ1 h k' F1 H1 g1 r1 => ?_⟩
  subst r1
  cases k' with
  | true =>
    rw [if_pos rfl] at h ⊢
    exact ⟨F1, ρ1, g1.ok, Post.from h g1 fun _ _ _ _ _ z => z⟩
  | false =>
    rw [if_neg Bool.false_ne_true] at h ⊢
    exact h _ F1 H1 g1 rfl
theorem pw_or_ {rest : List Expr} (ha : PT X a (Tt Γ φ W ta)) (hb : PW X (.BoolOp .Or (b :: rest) pos) (Tt Γ φ W tb)) : PW X (.BoolOp .Or (a :: b :: rest) pos) (Tt Γ φ W (.or ta tb)) := by
  refine PW.of (pw_or ha hb) fun σ H Q h => ?_
  obtain ⟨F, ρ, ok, h⟩ := h
  rw [evT] at h
  refine ⟨F, ρ, ok, Post.bnd h fun k ρ1 h k' F1 H1 g1 r1 => ?_⟩
  subst r1
  cases k' with
  | true =>
    rw [if_pos rfl] at h ⊢
    exact h _ F1 H1 g1 rfl
  | false =>
    rw [if_neg Bool.false_ne_true] at h ⊢
    exact ⟨F1, ρ1, g1.ok, Post.from h g1 fun _ _ _ _ _ z => z⟩
theorem pts_yes : PTs X [] (Tt Γ φ W .yes) := ⟨fun pins s σ H Q I h => pts_nil.run pins s σ H Q I (by
  obtain ⟨F, ρ, ok, h⟩ := h
  rw [evT] at h
  exact h _ F H (.refl ok) rfl)⟩

/-! ### arguments of own defs -/
theorem pl_nil : PA X [] (Tl Γ φ W .nil) := by
  refine PA.of pa_nil fun σ H Q h => ?_
  obtain ⟨F, ρ, ok, h⟩ := h
  rw [evL] at h
  exact h _ F H (.refl ok) .nil
theorem pl_cons {m : Bool} (he : PE X e (Tx Γ φ W ce)) (hr : PA X es (Tl Γ φ W ces)) (hs : starEach (e :: es) X.env = (false, eval e X.env) :: starEach es X.env) : PA X (e :: es) (Tl Γ φ W (.cons m ce ces)) := by
  refine PA.of (pa_cons he hr hs) fun σ H Q h => ?_
  obtain ⟨F, ρ, ok, h⟩ := h
  rw [evL] at h
  refine ⟨F, ρ, ok, Post.bnd h fun x ρ1 h v F1 H1 g1 r1 => ?_⟩
  cases m with
  | false =>
    have h' : Post Γ F H σ ρ W (((x.frz ρ1).bind fun d ρ => R.ok (Ag.d d) ρ).bind fun g ρ => (evL φ ces ρ).bind fun gs ρ => .ok (g :: gs) ρ) (fun F' _ _ gs xs => Paired (RepG Γ.K F' σ) gs xs) Q := h
    cases q : x.frz ρ1 with
    | stuck => rw [q] at h'; exact h'.elim
    | exc y ρ' => exact (frz_exc q).elim
    | ok d ρ2 =>
      rw [q] at h'
      obtain ⟨F2, g2, p2⟩ := g1.frz r1 q
      refine ⟨F2, ρ2, g2.ok, Post.bnd (Post.from (rep1 := fun F' _ _ gs xs => Paired (RepG Γ.K F' σ) gs xs) h' g2 fun _ _ _ _ _ z => z) fun gs ρ3 h xs F3 H3 g3 r3 => ?_⟩
      exact h (v :: xs) F3 H3 g3 (.cons (Rep.mono g3.grow _ _ p2) r3)
  | true =>
    cases x with
    | pl i =>
      have h' : Post Γ F H σ ρ W ((evL φ ces ρ1).bind fun gs ρ => .ok (Ag.pl i :: gs) ρ) (fun F' _ _ gs xs => Paired (RepG Γ.K F' σ) gs xs) Q := h
      refine ⟨F1, ρ1, g1.ok, Post.bnd (Post.from (rep1 := fun F' _ _ gs xs => Paired (RepG Γ.K F' σ) gs xs) h' g1 fun _ _ _ _ _ z => z) fun gs ρ3 h xs F3 H3 g3 r3 => ?_⟩
      exact h (v :: xs) F3 H3 g3 (.cons r1.1 r3)
    | _ => exact h.elim
end
end Pv

/-! Pv9: a call of an own def. -/
namespace Pv
open PySem PySem.Spec L2
open PyProof.Rows hiding St
theorem Paired.at {α β : Type} {F : α → β → Prop} : ∀ {l : List α} {m : List β} {i : Nat} {a : α}, Paired F l m → l[i]? = some a → ∃ b, m[i]? = some b ∧ F a b
  | _, _, _, _, .nil, h => by simp at h
  | _, _, 0, _, .cons r _, h => by simp at h; subst h; exact ⟨_, rfl, r⟩
  | _, _, i + 1, _, .cons _ t, h => by
    obtain ⟨b, e, q⟩ := Paired.at (i := i) t (by simpa using h)
    exact ⟨b, by simpa using e, q⟩
theorem agsW_len {ρ : Env} : ∀ {gs : List Ag} {ws : List Pv.W}, agsW ρ gs = some ws → gs.length = ws.length
  | [], _, h => by cases h; rfl
  | g :: r, ws, h => by
    obtain ⟨w, e1, h⟩ := Option.bind_eq_some_iff.mp (show (agW ρ g).bind (fun w => (agsW ρ r).map (w :: ·)) = some ws from h)
    obtain ⟨ws', e2, rfl⟩ := Option.map_eq_some_iff.mp h
    simp [agsW_len e2]
theorem agsW_at {ρ : Env} : ∀ {gs : List Ag} {ws : List Pv.W} {j : Nat} {w : Pv.W}, agsW ρ gs = some ws → ws[j]? = some w → ∃ g, gs[j]? = some g ∧ agW ρ g = some w
  | [], _, _, _, h, hw => by cases h; simp at hw
  | g :: r, ws, j, w, h, hw => by
    obtain ⟨w', e1, h⟩ := Option.bind_eq_some_iff.mp (show (agW ρ g).bind (fun w => (agsW ρ r).map (w :: ·)) = some ws from h)
    obtain ⟨ws', e2, rfl⟩ := Option.map_eq_some_iff.mp h
    cases j with
    | zero => simp at hw; subst hw; exact ⟨g, rfl, e1⟩
    | succ j =>
      obtain ⟨g', e3, e4⟩ := agsW_at e2 (by simpa using hw)
      exact ⟨g', by simpa using e3, e4⟩
theorem mem_lents : ∀ {gs : List Ag} {j k : Nat}, gs[j]? = some (.pl k) → k ∈ lents gs
  | [], _, _, h => by simp at h
  | .d _ :: r, 0, _, h => by simp at h
  | .pl k :: r, 0, _, h => by simp at h; subst h; exact List.mem_cons_self
  | .d _ :: r, j + 1, _, h => mem_lents (gs := r) (by simpa using h)
  | .pl _ :: r, j + 1, _, h => List.mem_cons_of_mem _ (mem_lents (gs := r) (by simpa using h))
theorem lents_mem : ∀ {gs : List Ag} {k : Nat}, k ∈ lents gs → ∃ j : Nat, gs[j]? = some (Ag.pl k)
  | [], _, h => by cases h
  | .d _ :: r, k, h => by
    obtain ⟨j, e⟩ := lents_mem (gs := r) h
    exact ⟨j + 1, by simpa using e⟩
  | .pl k' :: r, k, h => by
    rcases List.mem_cons.mp h with h | h
    · subst h; exact ⟨0, rfl⟩
    · obtain ⟨j, e⟩ := lents_mem (gs := r) h
      exact ⟨j + 1, by simpa using e⟩
/-- a slot is lent at one place -/
theorem lents_inj : ∀ {gs : List Ag} {i j k : Nat}, (lents gs).Nodup → gs[i]? = some (.pl k) → gs[j]? = some (.pl k) → i = j
  | [], _, _, _, _, h, _ => by simp at h
  | .d _ :: r, 0, _, _, _, h, _ => by simp at h
  | .d _ :: r, i + 1, 0, _, _, _, h => by simp at h
  | .d _ :: r, i + 1, j + 1, k, n, h1, h2 => by rw [lents_inj (gs := r) (i := i) (j := j) n (by simpa using h1) (by simpa using h2)]
  | .pl _ :: r, 0, 0, _, _, _, _ => rfl
  | .pl k' :: r, 0, j + 1, k, n, h1, h2 => by
    simp at h1
    subst h1
    exact absurd (mem_lents (gs := r) (j := j) (by simpa using h2)) (List.nodup_cons.mp n).1
  | .pl k' :: r, i + 1, 0, k, n, h1, h2 => by
    simp at h2
    subst h2
    exact absurd (mem_lents (gs := r) (j := i) (by simpa using h1)) (List.nodup_cons.mp n).1
  | .pl _ :: r, i + 1, j + 1, k, n, h1, h2 => by rw [lents_inj (gs := r) (i := i) (j := j) (List.nodup_cons.mp n).2 (by simpa using h1) (by simpa using h2)]
/-- a lent slot behind the call -/
def BackAt (ρ ρ2 : Env) (k : Nat) (w : Pv.W) : Prop := ∃ d, w = .bor d ∧ (((∃ d0, ρ[k]? = some (.own d0)) ∧ ρ2[k]? = some (.own d)) ∨ ((∃ d0, ρ[k]? = some (.bor d0)) ∧ ρ2[k]? = some (.bor d)))
theorem backW_at {ρ ρ' : Env} {k : Nat} {w : Pv.W} (h : backW ρ k w = some ρ') : BackAt ρ ρ' k w ∧ ρ'.length = ρ.length ∧ ∀ i, i ≠ k → ρ'[i]? = ρ[i]? := by
  unfold backW at h
  split at h
  · rename_i d0 d e
    cases h
    have hi : k < ρ.length := (List.getElem?_eq_some_iff.mp e).1
    exact ⟨⟨_, rfl, .inl ⟨⟨_, e⟩, List.getElem?_set_self hi⟩⟩, List.length_set, fun i hi => List.getElem?_set_ne (Ne.symm hi)⟩
  · rename_i d0 d e
    cases h
    have hi : k < ρ.length := (List.getElem?_eq_some_iff.mp e).1
    exact ⟨⟨_, rfl, .inr ⟨⟨_, e⟩, List.getElem?_set_self hi⟩⟩, List.length_set, fun i hi => List.getElem?_set_ne (Ne.symm hi)⟩
  · cases h
theorem backs_at : ∀ {gs : List Ag} {ws : List Pv.W} {ρ ρ2 : Env}, backs ρ gs ws = some ρ2 → (lents gs).Nodup →
    ρ2.length = ρ.length ∧ (∀ i, i ∉ lents gs → ρ2[i]? = ρ[i]?) ∧ (∀ (j k : Nat), gs[j]? = some (.pl k) → ∃ w, ws[j]? = some w ∧ BackAt ρ ρ2 k w)
  | [], [], ρ, ρ2, h, _ => by
    cases h
    exact ⟨rfl, fun _ _ => rfl, fun j k e => by simp at e⟩
  | [], _ :: _, _, _, h, _ => by cases h
  | .d _ :: _, [], _, _, h, _ => by cases h
  | .pl _ :: _, [], _, _, h, _ => by cases h
  | .d x :: r, w :: ws, ρ, ρ2, h, n => by
    obtain ⟨h1, h2, h3⟩ := backs_at (gs := r) (ws := ws) (show backs ρ r ws = some ρ2 from h) n
    refine ⟨h1, h2, fun j k e => ?_⟩
    cases j with
    | zero => simp at e
    | succ j =>
      obtain ⟨w', e1, q⟩ := h3 j k (by simpa using e)
      exact ⟨w', by simpa using e1, q⟩
  | .pl k0 :: r, w :: ws, ρ, ρ2, h, n => by
    obtain ⟨ρ', e1, h⟩ := Option.bind_eq_some_iff.mp (show (backW ρ k0 w).bind (fun ρ => backs ρ r ws) = some ρ2 from h)
    obtain ⟨b1, l1, o1⟩ := backW_at e1
    obtain ⟨n1, n2⟩ := List.nodup_cons.mp n
    obtain ⟨h1, h2, h3⟩ := backs_at (gs := r) (ws := ws) h n2
    refine ⟨h1.trans l1, fun i hi => ?_, fun j k e => ?_⟩
    · have hi' : i ≠ k0 ∧ i ∉ lents r := by
        constructor
        · exact fun z => hi (by rw [z]; exact List.mem_cons_self)
        · exact fun z => hi (List.mem_cons_of_mem _ z)
      rw [h2 i hi'.2, o1 i hi'.1]
    · cases j with
      | zero =>
        simp at e
        subst e
        obtain ⟨d, ew, q⟩ := b1
        refine ⟨w, rfl, d, ew, ?_⟩
        rw [h2 k0 n1]
        exact q
      | succ j =>
        obtain ⟨w', e2, d, ew, q⟩ := h3 j k (by simpa using e)
        have hk : k ≠ k0 := fun z => by
          subst z
          exact n1 (mem_lents (gs := r) (j := j) (by simpa using e))
        rw [o1 k hk] at q
        exact ⟨w', by simpa using e2, d, ew, q⟩
section
variable {K : PySem.W.Frag} {F H F' H' : Hp} {σ : L2.St} {ρ ρ2 : Env} {gs : List Ag} {vs : List V} {ws ws' : List Pv.W}
theorem map_some_at {vs : List V} {j : Nat} {v : Option V} : (vs.map some)[j]? = some v ↔ ∃ u, vs[j]? = some u ∧ v = some u := by
  rw [List.getElem?_map]
  cases q : vs[j]? with
  | none => simp
  | some u => simp [eq_comm]
/-- the arguments stand as the callee wants them -/
theorem args_ok (ok : Ok K F H σ ρ) (r : Paired (RepG K F σ) gs vs) (n : (lents gs).Nodup) (e : agsW ρ gs = some ws) : Ok K F H (vs.map some) ws ∧ plainWs ws = true ∧
    ∀ a, Own (vs.map some) ws a → ∃ (j k : Nat), gs[j]? = some (.pl k) ∧ Ownish ρ k ∧ σ[k]? = some (some (.ref a)) ∧ Ownish ws j ∧ (vs.map some)[j]? = some (some (.ref a)) := by
  have lent : ∀ (j : Nat) (d : D), (ws[j]? = some (.own d) ∨ ws[j]? = some (.bor d) ∨ ws[j]? = some (.lck d)) → ∃ (k : Nat) (a : Addr), gs[j]? = some (.pl k) ∧ (ρ[k]? = some (.own d) ∨ ρ[k]? = some (.bor d)) ∧ σ[k]? = some (some (.ref a)) ∧ (vs.map some)[j]? = some (some (.ref a)) ∧ F a = none ∧ ContO K F a d (H a) := fun j d hw => by
    obtain ⟨w, ew, hw'⟩ : ∃ w, ws[j]? = some w ∧ (w = .own d ∨ w = .bor d ∨ w = .lck d) := by
      rcases hw with h | h | h
      · exact ⟨_, h, .inl rfl⟩
      · exact ⟨_, h, .inr (.inl rfl)⟩
      · exact ⟨_, h, .inr (.inr rfl)⟩
    obtain ⟨g, eg, ea⟩ := agsW_at e ew
    cases g with
    | d x =>
      have ea' : Pv.W.dat x = w := Option.some.inj ea
      subst ea'
      rcases hw' with z | z | z <;> cases z
    | pl k =>
      have ea' : (match ρ[k]? with
        | some (.own d) => some (Pv.W.bor d)
        | some (.bor d) => some (.bor d)
        | _ => none) = some w := ea
      have hk : ρ[k]? = some (.own d) ∨ ρ[k]? = some (.bor d) := by
        split at ea'
        · rename_i d' eq
          have := Option.some.inj ea'
          subst this
          rcases hw' with z | z | z
          · cases z
          · cases z; exact .inl eq
          · cases z
        · rename_i d' eq
          have := Option.some.inj ea'
          subst this
          rcases hw' with z | z | z
          · cases z
          · cases z; exact .inr eq
          · cases z
        · cases ea'
      obtain ⟨v, ev, rg⟩ := Paired.at r eg
      obtain ⟨a, es, fa, c⟩ := ok.obj k d (by rcases hk with z | z; exact .inl z; exact .inr (.inl z))
      have rg' : σ[k]? = some (some v) := rg
      rw [es] at rg'
      cases rg'
      exact ⟨k, a, eg, hk, es, map_some_at.mpr ⟨_, ev, rfl⟩, fa, c⟩
  refine ⟨⟨ok.le, ?_, fun j d hw => ?_, fun j d hw => ?_, fun i j a hi hj e1 e2 => ?_⟩, ?_, fun a ⟨j, ⟨d, hd⟩, ej⟩ => ?_⟩
  · rw [← agsW_len e, List.length_map]
    exact Paired.length r
  · obtain ⟨g, eg, ea⟩ := agsW_at e hw
    cases g with
    | d x =>
      have ea' : Pv.W.dat x = .dat d := Option.some.inj ea
      cases ea'
      obtain ⟨v, ev, rg⟩ := Paired.at r eg
      exact ⟨v, map_some_at.mpr ⟨_, ev, rfl⟩, rg⟩
    | pl k =>
      have ea' : (match ρ[k]? with
        | some (.own d) => some (Pv.W.bor d)
        | some (.bor d) => some (.bor d)
        | _ => none) = some (.dat d) := ea
      split at ea' <;> cases ea'
  · obtain ⟨k, a, _, _, _, e3, fa, c⟩ := lent j d hw
    exact ⟨a, e3, fa, c⟩
  · obtain ⟨di, hi⟩ := hi
    obtain ⟨dj, hj⟩ := hj
    obtain ⟨ki, ai, gi, oi, si, vi, _, _⟩ := lent i di hi
    obtain ⟨kj, aj, gj, oj, sj, vj, _, _⟩ := lent j dj hj
    rw [vi] at e1
    rw [vj] at e2
    cases e1
    cases e2
    have : ki = kj := ok.inj ki kj a ⟨di, by rcases oi with z | z; exact .inl z; exact .inr (.inl z)⟩ ⟨dj, by rcases oj with z | z; exact .inl z; exact .inr (.inl z)⟩ si sj
    subst this
    exact lents_inj n gi gj
  · unfold plainWs
    rw [List.all_eq_true]
    intro w hw
    obtain ⟨j, hj, ej⟩ := List.mem_iff_getElem.mp hw
    obtain ⟨g, eg, ea⟩ := agsW_at e (j := j) (w := w) (by rw [List.getElem?_eq_getElem hj, ej])
    cases g with
    | d x =>
      have ea' : Pv.W.dat x = w := Option.some.inj ea
      subst ea'
      rfl
    | pl k =>
      have ea' : (match ρ[k]? with
        | some (.own d) => some (Pv.W.bor d)
        | some (.bor d) => some (.bor d)
        | _ => none) = some w := ea
      split at ea' <;> first | (cases ea'; rfl) | cases ea'
  · obtain ⟨k, b, e1, e2, e3, e4, _, _⟩ := lent j d (by rcases hd with z | z; exact .inl z; exact .inr (.inl z))
    rw [e4] at ej
    cases ej
    exact ⟨j, k, e1, ⟨d, e2⟩, e3, ⟨d, hd⟩, e4⟩
/-- behind the call -/
theorem call_go (ok : Ok K F H σ ρ) (r : Paired (RepG K F σ) gs vs) (n : (lents gs).Nodup) (e : agsW ρ gs = some ws) (g : Go K F H (vs.map some) ws F' H' (vs.map some) ws') (b : backs ρ gs ws' = some ρ2) :
    Go K F H σ ρ F' H' σ ρ2 ∧ ∀ a, Hld σ ρ2 a → Hld σ ρ a := by
  obtain ⟨ok', _, own⟩ := args_ok ok r n e
  obtain ⟨hl, ho, hb⟩ := backs_at b n
  have held : ∀ i, Heldish ρ2 i → Heldish ρ i := fun i ⟨d, hd⟩ => by
    by_cases hi : i ∈ lents gs
    · obtain ⟨j, ej⟩ := lents_mem hi
      obtain ⟨w, ew, d', _, q⟩ := hb j i ej
      rcases q with ⟨⟨d0, z⟩, _⟩ | ⟨⟨d0, z⟩, _⟩
      · exact ⟨d0, .inl z⟩
      · exact ⟨d0, .inr (.inl z)⟩
    · rw [ho i hi] at hd
      exact ⟨d, hd⟩
  have ownB : ∀ a, Own (vs.map some) ws a → Own σ ρ a := fun a h => by
    obtain ⟨j, k, _, h2, h3, _⟩ := own a h
    exact ⟨k, h2, h3⟩
  refine ⟨⟨⟨g.ok.le, hl.trans ok.len, fun i d hd => ?_, fun i d hd => ?_, fun i j a hi hj => ok.inj i j a (held i hi) (held j hj)⟩, g.grow, fun a h1 h2 => ?_, fun a o h1 h2 => g.frame a o h1 fun z => h2 (ownB a z), g.pers, fun a ⟨i, ⟨d, hd⟩, ei⟩ => ?_, fun i d hd => ?_, fun i d hd => ?_, fun i d hd => ?_, fun i ⟨w, hw, nw⟩ => ?_⟩, fun a ⟨i, hi, ei⟩ => ⟨i, held i hi, ei⟩⟩
  · have hi : i ∉ lents gs := fun hi => by
      obtain ⟨j, ej⟩ := lents_mem hi
      obtain ⟨w, ew, d', _, q⟩ := hb j i ej
      rcases q with ⟨_, z⟩ | ⟨_, z⟩ <;> (rw [z] at hd; cases hd)
    rw [ho i hi] at hd
    obtain ⟨v, ev, p⟩ := ok.dat i d hd
    exact ⟨v, ev, Rep.mono g.grow _ _ p⟩
  · by_cases hi : i ∈ lents gs
    · obtain ⟨j, ej⟩ := lents_mem hi
      obtain ⟨w, ew, d', e1, q⟩ := hb j i ej
      subst e1
      have hd' : d = d' := by
        rcases q with ⟨_, z⟩ | ⟨_, z⟩ <;> (rw [z] at hd; rcases hd with y | y | y <;> first | (cases y; rfl) | cases y)
      subst hd'
      obtain ⟨a, ea, fa, c⟩ := g.ok.obj j d (.inr (.inl ew))
      obtain ⟨v, ev, rg⟩ := Paired.at r ej
      obtain ⟨u, eu, eq⟩ := map_some_at.mp ea
      rw [ev] at eu
      cases eu
      cases eq
      exact ⟨a, rg, fa, c⟩
    · rw [ho i hi] at hd
      obtain ⟨a, ea, fa, c⟩ := ok.obj i d hd
      have no : ¬ Own (vs.map some) ws a := fun z => by
        obtain ⟨j, k, h1, h2, h3, _⟩ := own a z
        have : i = k := ok.inj i k a ⟨d, hd⟩ h2.held ea h3
        subst this
        exact hi (mem_lents h1)
      have eh : H' a = H a := by
        cases q : H a with
        | none => exact absurd q c.some_
        | some o => exact g.frame a o q no
      refine ⟨a, ea, ?_, by rw [eh]; exact c.mono g.grow⟩
      cases q : F' a with
      | none => rfl
      | some o =>
        rcases g.fnew a (by rw [q]; simp) fa with z | z
        · exact absurd z c.some_
        · exact absurd z no
  · rcases g.fnew a h1 h2 with z | z
    · exact .inl z
    · exact .inr (ownB a z)
  · left
    by_cases hi : i ∈ lents gs
    · obtain ⟨j, ej⟩ := lents_mem hi
      obtain ⟨w, ew, d', e1, q⟩ := hb j i ej
      rcases q with ⟨⟨d0, z⟩, _⟩ | ⟨⟨d0, z⟩, _⟩
      · exact ⟨i, ⟨d0, .inl z⟩, ei⟩
      · exact ⟨i, ⟨d0, .inr z⟩, ei⟩
    · rw [ho i hi] at hd
      exact ⟨i, ⟨d, hd⟩, ei⟩
  · have hi : i ∉ lents gs := fun hi => by
      obtain ⟨j, ej⟩ := lents_mem hi
      obtain ⟨w, ew, d', _, q⟩ := hb j i ej
      rcases q with ⟨⟨d0, z⟩, _⟩ | ⟨⟨d0, z⟩, _⟩ <;> (rw [z] at hd; cases hd)
    exact ⟨by rw [ho i hi]; exact hd, rfl⟩
  · have hi : i ∉ lents gs := fun hi => by
      obtain ⟨j, ej⟩ := lents_mem hi
      obtain ⟨w, ew, d', _, q⟩ := hb j i ej
      rcases q with ⟨_, z⟩ | ⟨_, z⟩ <;> (rw [z] at hd; cases hd)
    rw [ho i hi] at hd
    exact ⟨hd, rfl⟩
  · by_cases hi : i ∈ lents gs
    · obtain ⟨j, ej⟩ := lents_mem hi
      obtain ⟨w, ew, d', e1, q⟩ := hb j i ej
      rcases q with ⟨⟨d0, z⟩, _⟩ | ⟨_, z⟩
      · rw [z] at hd; cases hd
      · exact ⟨d', z, rfl⟩
    · exact ⟨d, by rw [ho i hi]; exact hd, rfl⟩
  · by_cases hi : i ∈ lents gs
    · obtain ⟨j, ej⟩ := lents_mem hi
      obtain ⟨w, ew, d', e1, q⟩ := hb j i ej
      rcases q with ⟨_, z⟩ | ⟨_, z⟩
      · exact ⟨_, z, by simp⟩
      · exact ⟨_, z, by simp⟩
    · exact ⟨w, by rw [ho i hi]; exact hw, nw⟩
end
/-- a def's promise: us the arguments, hidden ones with them -/
def spR (Γ : Gm) (F H : Hp) (us : List V) (ws : List Pv.W) (Q : VK) (E : XK) : CO → Prop
  | .ok α ws' => ∀ (v : V) (F' H' : Hp), Go Γ.K F H (us.map some) ws F' H' (us.map some) ws' → (∀ i, α ≠ .pl i) → RepA Γ.K H F' H' (us.map some) ws' α v → Q v H'
  | .exc x ws' => ∀ (F' H' : Hp) (C : Value) (d : Option Addr), Go Γ.K F H (us.map some) ws F' H' (us.map some) ws' → XRep Γ F' H' x C d → E C d H'
  | .stuck => False
  | .any g => ∀ b, spR Γ F H us ws Q E (g b)
/-- m: how many hidden arguments -/
def spF (Γ : Gm) (m : Nat) (f : List Pv.W → CO) : Sp := fun vs H Q E => ∃ F ws gvs, gvs.length = m ∧ Ok Γ.K F H ((vs ++ gvs).map some) ws ∧ plainWs ws = true ∧ spR Γ F H (vs ++ gvs) ws Q E (f ws)
section
variable {X : Cx} {Γ : Gm} {φ : Phi} {W : WX} {e : Expr} {es : List Expr} {ces : Es} {pos p : Pos} {x : Str} {f : Addr} {fd : FuncData} {ps : List Str} {k i m : Nat}
theorem call_core {σ : L2.St} {F H F1 H1 : Hp} {ρ ρ1 : Env} {gs : List Ag} {vs gvs : List V} {Q : VK} (g1 : Go Γ.K F H σ ρ F1 H1 σ ρ1) (r : Paired (RepG Γ.K F1 σ) gs (vs ++ gvs)) (hm : gvs.length = m) (h : Post Γ F H σ ρ W (callG φ i gs ρ1) (repA Γ σ H) Q) :
    spF Γ m (φ i) vs H1 Q (WE W σ) := by
  unfold callG at h
  by_cases n : (lents gs).Nodup
  · rw [if_pos n] at h
    cases q : agsW ρ1 gs with
    | none => rw [q] at h; exact h.elim
    | some ws =>
      rw [q] at h
      obtain ⟨ok', pw, own⟩ := args_ok g1.ok r n q
      refine ⟨F1, ws, gvs, hm, ok', pw, ?_⟩
      cases qf : φ i ws with
      | stuck => simp only [qf] at h; exact h.elim
      | any g => simp only [qf] at h; exact h.elim
      | exc y ws' =>
        simp only [qf] at h
        intro F' H' C d g rx
        cases qb : backs ρ1 gs ws' with
        | none => rw [qb] at h; exact h.elim
        | some ρ2 =>
          rw [qb] at h
          exact h F' H' C d (g1.trans (call_go g1.ok r n q g qb).1) rx
      | ok α ws' =>
        simp only [qf] at h
        intro v F' H' g np ra
        cases qb : backs ρ1 gs ws' with
        | none => rw [qb] at h; exact h.elim
        | some ρ2 =>
          rw [qb] at h
          obtain ⟨g2, held⟩ := call_go g1.ok r n q g qb
          refine h v F' H' (g1.trans g2) (RepA.back g1 ?_)
          cases α with
          | d x => exact ra
          | fr x =>
            obtain ⟨a, e, h0, fa, nh, c⟩ := ra
            exact ⟨a, e, h0, fa, fun z => (g1.ok.hld (held a z)).2 h0, c⟩
          | pl j => exact absurd rfl (np j)
          | ft ds s =>
            obtain ⟨a, b, ys, u, e, h0, fa, nh, ca, rs, h0b, fb, nhb, q⟩ := ra
            exact ⟨a, b, ys, u, e, h0, fa, fun z => (g1.ok.hld (held a z)).2 h0, ca, rs, h0b, fb, fun z => (g1.ok.hld (held b z)).2 h0b, q⟩
  · rw [if_neg n] at h
    exact h.elim
theorem px_call (F : FnOk X.prog X.w X.K X.mg X.base (L2.CX X.prog X.w) k f fd ps (spF Γ 0 (φ i))) (hr : Room k X.A) (hg : Gl X x) (hm : X.mg x = some (.ref f)) (hk : PySem.W.keepIn X.K (.ref f) = true) (hb : Binds X.K fd ps []) (tk : Takes X W)
    (ha : PA X (e :: es) (Tl Γ φ W ces)) (hdb : (x == ("__debug__" : Str)) = false) (he : starEach (e :: es) X.env = (false, eval e X.env) :: starEach es X.env) (hpl : (backTo pos (starEach es X.env)).any (·.1) = false) :
    PE X (.Call (.Name x p) (e :: es) [] pos) (Tx Γ φ W (.call i ces)) := by
  refine PE.of (pe_callS F hr hg hm hk hb (fun σ => passAt tk σ) ha hdb he hpl) fun σ H Q h => ?_
  obtain ⟨F, ρ, ok, h⟩ := h
  rw [ev] at h
  exact ⟨F, ρ, ok, Post.bnd h fun gs ρ1 h vs F1 H1 g1 r1 => call_core g1 (gvs := []) (by rw [List.append_nil]; exact r1) rfl h⟩
theorem Paired.snoc {α β : Type} {R : α → β → Prop} {a : α} {b : β} (h : R a b) : ∀ {l : List α} {m : List β}, Paired R l m → Paired R (l ++ [a]) (m ++ [b])
  | _, _, .nil => .cons h .nil
  | _, _, .cons r t => .cons r (Paired.snoc h t)
/-- a call that hands the ghost on -/
theorem px_callT {g : Nat} (F : FnOk X.prog X.w X.K X.mg X.base (L2.CX X.prog X.w) k f fd ps (spF Γ 1 (φ i))) (hr : Room k X.A) (hg : Gl X x) (hm : X.mg x = some (.ref f)) (hk : PySem.W.keepIn X.K (.ref f) = true) (hb : Binds X.K fd ps []) (tk : Takes X W)
    (ha : PA X (e :: es) (Tl Γ φ W ces)) (hdb : (x == ("__debug__" : Str)) = false) (he : starEach (e :: es) X.env = (false, eval e X.env) :: starEach es X.env) (hpl : (backTo pos (starEach es X.env)).any (·.1) = false) :
    PE X (.Call (.Name x p) (e :: es) [] pos) (Tx Γ φ W (.callT i ces g)) := by
  refine PE.of (pe_callS F hr hg hm hk hb (fun σ => passAt tk σ) ha hdb he hpl) fun σ H Q h => ?_
  obtain ⟨F, ρ, ok, h⟩ := h
  rw [ev] at h
  refine ⟨F, ρ, ok, Post.bnd h fun gs ρ1 h vs F1 H1 g1 r1 => ?_⟩
  have lst : ∀ {gs : List Ag} {ws : List Pv.W}, agsW ρ1 (gs ++ [.pl g]) = some ws → ∃ w, agW ρ1 (.pl g) = some w := fun {gs} => by
    induction gs with
    | nil =>
      intro ws e
      obtain ⟨w, e1, _⟩ := Option.bind_eq_some_iff.mp (show (agW ρ1 (.pl g)).bind (fun w => (agsW ρ1 []).map (w :: ·)) = some ws from e)
      exact ⟨w, e1⟩
    | cons a r ih =>
      intro ws e
      obtain ⟨w, _, e2⟩ := Option.bind_eq_some_iff.mp (show (agW ρ1 a).bind (fun w => (agsW ρ1 (r ++ [.pl g])).map (w :: ·)) = some ws from e)
      obtain ⟨ws', e3, _⟩ := Option.map_eq_some_iff.mp e2
      exact ih e3
  have gh : ∃ b : Addr, σ[g]? = some (some (.ref b)) := by
    have h' := h
    unfold callG at h'
    by_cases n : (lents (gs ++ [Ag.pl g])).Nodup
    · rw [if_pos n] at h'
      cases q : agsW ρ1 (gs ++ [.pl g]) with
      | none => rw [q] at h'; exact h'.elim
      | some ws =>
        obtain ⟨w, ew⟩ := lst q
        have ew' : (match ρ1[g]? with
          | some (.own d) => some (Pv.W.bor d)
          | some (.bor d) => some (.bor d)
          | _ => none) = some w := ew
        split at ew'
        · rename_i d q
          obtain ⟨a, ea, _⟩ := g1.ok.obj g d (.inl q)
          exact ⟨a, ea⟩
        · rename_i d q
          obtain ⟨a, ea, _⟩ := g1.ok.obj g d (.inr (.inl q))
          exact ⟨a, ea⟩
        · cases ew'
    · rw [if_neg n] at h'; exact h'.elim
  obtain ⟨b, eb⟩ := gh
  exact call_core g1 (gvs := [.ref b]) (Paired.snoc (show RepG Γ.K F1 σ (.pl g) (.ref b) from eb) r1) rfl h
theorem px_call0 (F : FnOk X.prog X.w X.K X.mg X.base (L2.CX X.prog X.w) k f fd ps (spF Γ 0 (φ i))) (hr : Room k X.A) (hg : Gl X x) (hm : X.mg x = some (.ref f)) (hk : PySem.W.keepIn X.K (.ref f) = true) (hb : Binds X.K fd ps []) (tk : Takes X W)
    (hdb : (x == ("__debug__" : Str)) = false) : PE X (.Call (.Name x p) [] [] pos) (Tx Γ φ W (.call i .nil)) := by
  refine ⟨fun pins s σ H Q I h => ?_⟩
  obtain ⟨F1, ρ, ok, h⟩ := h
  rw [ev, evL] at h
  have h' : spF Γ 0 (φ i) [] H Q (WE W σ) := call_core (Go.refl ok) (gvs := []) (.nil : Paired (RepG Γ.K F1 σ) [] []) rfl h
  refine wpAny_Call_Name_kw (ld_glob I hg hm ?_ hdb)
  exact PySem.W.callWith_K0 I.kIn hk (run_fnS (us := []) F hr hb (passAt tk σ) I .nil h')
end
end Pv

/-! Pv10: what is walked; targets; comprehensions. -/
namespace Pv
open PySem PySem.Spec L2
open PyProof.Rows hiding St

/-! ### wiping -/
theorem wipeW_len (ρ : Env) : ∀ vs : List Nat, (wipeW ρ vs).length = ρ.length
  | [] => rfl
  | v :: vs => by
    show ((wipeW ρ vs).set v .un).length = _
    rw [List.length_set, wipeW_len ρ vs]
theorem wipeW_out {ρ : Env} {i : Nat} : ∀ {vs : List Nat}, i ∉ vs → (wipeW ρ vs)[i]? = ρ[i]?
  | [], _ => rfl
  | v :: vs, h => by
    have h1 : v ≠ i := fun e => h (by rw [e]; exact List.mem_cons_self)
    show ((wipeW ρ vs).set v .un)[i]? = _
    rw [List.getElem?_set_ne h1]
    exact wipeW_out fun m => h (List.mem_cons_of_mem _ m)
theorem wipeW_in {ρ : Env} {i : Nat} {w : Pv.W} : ∀ {vs : List Nat}, i ∈ vs → (wipeW ρ vs)[i]? = some w → w = .un
  | [], h, _ => by cases h
  | v :: vs, h, e => by
    have e' : ((wipeW ρ vs).set v .un)[i]? = some w := e
    by_cases hv : v = i
    · subst hv
      have hl : v < (wipeW ρ vs).length := by
        have := (List.getElem?_eq_some_iff.mp e').1
        rw [List.length_set] at this
        exact this
      rw [List.getElem?_set_self hl] at e'
      exact (Option.some.inj e').symm
    · rw [List.getElem?_set_ne hv] at e'
      rcases List.mem_cons.mp h with z | z
      · exact absurd z.symm hv
      · exact wipeW_in z e'
theorem backV_len (ρ0 ρ : Env) : ∀ vs : List Nat, (backV ρ0 ρ vs).length = ρ.length
  | [] => rfl
  | v :: vs => by
    show ((backV ρ0 ρ vs).set v _).length = _
    rw [List.length_set, backV_len ρ0 ρ vs]
theorem backV_out {ρ0 ρ : Env} {i : Nat} : ∀ {vs : List Nat}, i ∉ vs → (backV ρ0 ρ vs)[i]? = ρ[i]?
  | [], _ => rfl
  | v :: vs, h => by
    have h1 : v ≠ i := fun e => h (by rw [e]; exact List.mem_cons_self)
    show ((backV ρ0 ρ vs).set v _)[i]? = _
    rw [List.getElem?_set_ne h1]
    exact backV_out fun m => h (List.mem_cons_of_mem _ m)
theorem backV_in {ρ0 ρ : Env} {i : Nat} (hl : ρ0.length = ρ.length) : ∀ {vs : List Nat}, i ∈ vs → (backV ρ0 ρ vs)[i]? = ρ0[i]?
  | [], h => by cases h
  | v :: vs, h => by
    show ((backV ρ0 ρ vs).set v (ρ0.getD v .un))[i]? = ρ0[i]?
    by_cases hv : v = i
    · subst hv
      by_cases hi : v < ρ0.length
      · rw [List.getElem?_set_self (by rw [backV_len, ← hl]; exact hi), List.getElem?_eq_getElem hi]
        simp [List.getD, hi]
      · rw [List.getElem?_eq_none (by rw [List.length_set, backV_len, ← hl]; omega), List.getElem?_eq_none (by omega)]
    · rw [List.getElem?_set_ne hv]
      rcases List.mem_cons.mp h with z | z
      · exact absurd z.symm hv
      · exact backV_in hl z
theorem wipe_in {σ : L2.St} {i : Nat} {w : Option V} : ∀ {vs : List Nat}, i ∈ vs → (L2.wipe σ vs)[i]? = some w → w = none
  | [], h, _ => by cases h
  | v :: vs, h, e => by
    have e' : ((L2.wipe σ vs).set v none)[i]? = some w := e
    by_cases hv : v = i
    · subst hv
      have hl : v < (L2.wipe σ vs).length := by
        have := (List.getElem?_eq_some_iff.mp e').1
        rw [List.length_set] at this
        exact this
      rw [List.getElem?_set_self hl] at e'
      exact (Option.some.inj e').symm
    · rw [List.getElem?_set_ne hv] at e'
      rcases List.mem_cons.mp h with z | z
      · exact absurd z.symm hv
      · exact wipe_in z e'
/-- two wiped frames of one length that are alike elsewhere -/
theorem wipe_ext {σ σ' : L2.St} {vs : List Nat} (hl : σ'.length = σ.length) (h : ∀ i, i ∉ vs → σ'[i]? = σ[i]?) : L2.wipe σ' vs = L2.wipe σ vs := by
  apply List.ext_getElem?
  intro i
  by_cases hi : i ∈ vs
  · by_cases hb : i < σ.length
    · have b1 : i < (L2.wipe σ' vs).length := by rw [L2.wipe_length, hl]; exact hb
      have b2 : i < (L2.wipe σ vs).length := by rw [L2.wipe_length]; exact hb
      rw [List.getElem?_eq_getElem b1, List.getElem?_eq_getElem b2]
      rw [wipe_in hi (List.getElem?_eq_getElem b1), wipe_in hi (List.getElem?_eq_getElem b2)]
    · rw [List.getElem?_eq_none (by rw [L2.wipe_length, hl]; omega), List.getElem?_eq_none (by rw [L2.wipe_length]; omega)]
  · rw [L2.wipe_out hi, L2.wipe_out hi]
    exact h i hi

section
variable {K : PySem.W.Frag} {F0 H0 F H F' H' : Hp} {σ0 σ σ' : L2.St} {ρ0 ρ ρ' ρ1 : Env} {vs : List Nat}
theorem heldish_wipe {i : Nat} (h : Heldish (wipeW ρ vs) i) : i ∉ vs ∧ Heldish ρ i := by
  obtain ⟨d, hd⟩ := h
  by_cases hi : i ∈ vs
  · rcases hd with z | z | z <;> (have := wipeW_in hi z; cases this)
  · rw [wipeW_out hi] at hd
    exact ⟨hi, d, hd⟩
theorem own_wipe {a : Addr} (h : Own (L2.wipe σ vs) (wipeW ρ vs) a) : Own σ ρ a := by
  obtain ⟨i, ⟨d, hd⟩, e⟩ := h
  have hi := (heldish_wipe ⟨d, by rcases hd with z | z; exact .inl z; exact .inr (.inl z)⟩).1
  rw [wipeW_out hi] at hd
  rw [L2.wipe_out hi] at e
  exact ⟨i, ⟨d, hd⟩, e⟩
theorem Ok.wipe (ok : Ok K F H σ ρ) (vs : List Nat) : Ok K F H (L2.wipe σ vs) (wipeW ρ vs) where
  le := ok.le
  len := by rw [wipeW_len, L2.wipe_length]; exact ok.len
  dat := fun i d h => by
    by_cases hi : i ∈ vs
    · have := wipeW_in hi h; cases this
    · rw [wipeW_out hi] at h
      rw [L2.wipe_out hi]
      exact ok.dat i d h
  obj := fun i d h => by
    have hi := (heldish_wipe ⟨d, h⟩).1
    rw [wipeW_out hi] at h
    rw [L2.wipe_out hi]
    exact ok.obj i d h
  inj := fun i j a hi hj e1 e2 => by
    obtain ⟨ni, hi⟩ := heldish_wipe hi
    obtain ⟨nj, hj⟩ := heldish_wipe hj
    rw [L2.wipe_out ni] at e1
    rw [L2.wipe_out nj] at e2
    exact ok.inj i j a hi hj e1 e2
/-- wiped again, from a wiped base -/
theorem Go.wipe (g : Go K F0 H0 σ0 (wipeW ρ0 vs) F H σ ρ) : Go K F0 H0 σ0 (wipeW ρ0 vs) F H (L2.wipe σ vs) (wipeW ρ vs) where
  ok := g.ok.wipe vs
  grow := g.grow
  fnew := g.fnew
  frame := g.frame
  pers := g.pers
  sub := fun a h => g.sub a (own_wipe h)
  lckF := fun i d h => by
    have hi : i ∉ vs := fun z => by have := wipeW_in z h; cases this
    obtain ⟨h1, e1⟩ := g.lckF i d h
    exact ⟨by rw [wipeW_out hi]; exact h1, by rw [L2.wipe_out hi]; exact e1⟩
  lckB := fun i d h => by
    have hi : i ∉ vs := fun z => by have := wipeW_in z h; cases this
    rw [wipeW_out hi] at h
    obtain ⟨h1, e1⟩ := g.lckB i d h
    exact ⟨h1, by rw [L2.wipe_out hi]; exact e1⟩
  bor := fun i d h => by
    have hi : i ∉ vs := fun z => by have := wipeW_in z h; cases this
    obtain ⟨d', h1, e1⟩ := g.bor i d h
    exact ⟨d', by rw [wipeW_out hi]; exact h1, by rw [L2.wipe_out hi]; exact e1⟩
  live := fun i ⟨w, hw, nw⟩ => by
    have hi : i ∉ vs := fun z => nw (wipeW_in z hw)
    obtain ⟨w', h1, n1⟩ := g.live i ⟨w, hw, nw⟩
    exact ⟨w', by rw [wipeW_out hi]; exact h1, n1⟩
theorem plainVs_at {v : Nat} (h : plainVs ρ vs = true) (hv : v ∈ vs) : ρ[v]? = some .un ∨ ∃ d, ρ[v]? = some (.dat d) := by
  have := List.all_eq_true.mp h v hv
  split at this
  · rename_i e; exact .inl e
  · rename_i d e; exact .inr ⟨d, e⟩
  · cases this
/-- the comprehension's names as they were -/
theorem Go.unwipe (ok : Ok K F0 H0 σ ρ0) (pl : plainVs ρ0 vs = true) (g : Go K F0 H0 (L2.wipe σ vs) (wipeW ρ0 vs) F H (L2.wipe σ vs) ρ) : Go K F0 H0 σ ρ0 F H σ (backV ρ0 ρ vs) := by
  have hl : ρ0.length = ρ.length := by
    rw [ok.len, g.ok.len, L2.wipe_length]
  have held : ∀ i, Heldish (backV ρ0 ρ vs) i → i ∉ vs ∧ Heldish ρ i := fun i ⟨d, hd⟩ => by
    by_cases hi : i ∈ vs
    · rw [backV_in hl hi] at hd
      rcases plainVs_at pl hi with z | ⟨x, z⟩ <;> (rw [z] at hd; rcases hd with y | y | y <;> cases y)
    · rw [backV_out hi] at hd
      exact ⟨hi, d, hd⟩
  have ownB : ∀ a, Own (L2.wipe σ vs) (wipeW ρ0 vs) a → Own σ ρ0 a := fun a h => own_wipe h
  refine ⟨⟨g.ok.le, by rw [backV_len]; rw [← hl]; exact ok.len, fun i d h => ?_, fun i d h => ?_, fun i j a hi hj e1 e2 => ?_⟩, g.grow, fun a h1 h2 => ?_, fun a o h1 h2 => g.frame a o h1 fun z => h2 (ownB a z), g.pers, fun a ⟨i, ⟨d, hd⟩, e⟩ => ?_, fun i d h => ?_, fun i d h => ?_, fun i d h => ?_, fun i ⟨w, hw, nw⟩ => ?_⟩
  · by_cases hi : i ∈ vs
    · rw [backV_in hl hi] at h
      obtain ⟨v, e, r⟩ := ok.dat i d h
      exact ⟨v, e, Rep.mono g.grow _ _ r⟩
    · rw [backV_out hi] at h
      have := g.ok.dat i d h
      rw [L2.wipe_out hi] at this
      exact this
  · have hi := (held i ⟨d, h⟩).1
    rw [backV_out hi] at h
    have := g.ok.obj i d h
    rw [L2.wipe_out hi] at this
    exact this
  · obtain ⟨ni, hi⟩ := held i hi
    obtain ⟨nj, hj⟩ := held j hj
    exact g.ok.inj i j a hi hj (by rw [L2.wipe_out ni]; exact e1) (by rw [L2.wipe_out nj]; exact e2)
  · rcases g.fnew a h1 h2 with z | z
    · exact .inl z
    · exact .inr (ownB a z)
  · have hh := held i ⟨d, by rcases hd with z | z; exact .inl z; exact .inr (.inl z)⟩
    rw [backV_out hh.1] at hd
    rcases g.sub a ⟨i, ⟨d, hd⟩, by rw [L2.wipe_out hh.1]; exact e⟩ with z | z
    · exact .inl (ownB a z)
    · exact .inr z
  · have hi : i ∉ vs := fun z => by rcases plainVs_at pl z with y | ⟨x, y⟩ <;> (rw [y] at h; cases h)
    obtain ⟨h1, e1⟩ := g.lckF i d (by rw [wipeW_out hi]; exact h)
    exact ⟨by rw [backV_out hi]; exact h1, rfl⟩
  · have hi := (held i ⟨d, .inr (.inr h)⟩).1
    rw [backV_out hi] at h
    obtain ⟨h1, e1⟩ := g.lckB i d h
    rw [wipeW_out hi] at h1
    exact ⟨h1, rfl⟩
  · have hi : i ∉ vs := fun z => by rcases plainVs_at pl z with y | ⟨x, y⟩ <;> (rw [y] at h; cases h)
    obtain ⟨d', h1, e1⟩ := g.bor i d (by rw [wipeW_out hi]; exact h)
    exact ⟨d', by rw [backV_out hi]; exact h1, rfl⟩
  · by_cases hi : i ∈ vs
    · exact ⟨w, by rw [backV_in hl hi]; exact hw, nw⟩
    · obtain ⟨w', h1, n1⟩ := g.live i ⟨w, by rw [wipeW_out hi]; exact hw, nw⟩
      exact ⟨w', by rw [backV_out hi]; exact h1, n1⟩
/-- an object that is nobody's is written -/
theorem Go.updD {D : Addr} {o : HO} (g : Go K F0 H0 σ0 ρ0 F H σ ρ) (h0 : H0 D = none) (f : F D = none) (nh : ¬ Hld σ ρ D) : Go K F0 H0 σ0 ρ0 F (upd H D o) σ ρ where
  ok := {
    le := fun a x h => by
      have : a ≠ D := fun z => by subst z; rw [f] at h; cases h
      rw [upd_ne this]; exact g.ok.le a x h
    len := g.ok.len
    dat := g.ok.dat
    obj := fun i d h => by
      obtain ⟨a, e, fa, c⟩ := g.ok.obj i d h
      have : a ≠ D := fun z => by subst z; exact nh ⟨i, ⟨d, h⟩, e⟩
      exact ⟨a, e, fa, by rw [upd_ne this]; exact c⟩
    inj := g.ok.inj }
  grow := g.grow
  fnew := g.fnew
  frame := fun a x h n => by
    have : a ≠ D := fun z => by subst z; rw [h0] at h; cases h
    rw [upd_ne this]; exact g.frame a x h n
  pers := fun a h => by
    by_cases z : a = D
    · subst z; rw [upd_same]; simp
    · rw [upd_ne z]; exact g.pers a h
  sub := g.sub
  lckF := g.lckF
  lckB := g.lckB
  bor := g.bor
  live := g.live

/-! ### locks -/
theorem set_at {w w' : Pv.W} {i j : Nat} (hi : i < ρ.length) : (ρ.set i w)[j]? = if j = i then some w else ρ[j]? := by
  by_cases h : j = i
  · subst h; rw [List.getElem?_set_self hi, if_pos rfl]
  · rw [List.getElem?_set_ne (Ne.symm h), if_neg h]
/-- an owned object is locked: the frame may not change it; unlocked, all is as a step -/
theorem lock_set {i : Nat} {d : D} (b : Bool) (ok : Ok K F H σ ρ) (q : ρ[i]? = some (if b then .own d else .bor d)) : Ok K F H σ (ρ.set i (.lck d)) ∧ (∀ a, σ[i]? = some (some (.ref a)) → ¬ Own σ (ρ.set i (.lck d)) a) ∧
    ∀ F' H' σ' ρ', Go K F H σ (ρ.set i (.lck d)) F' H' σ' ρ' → Go K F H σ ρ F' H' σ' (ρ'.set i (if b then .own d else .bor d)) := by
  have hi : i < ρ.length := (List.getElem?_eq_some_iff.mp q).1
  have hq : ρ[i]? = some (.own d) ∨ ρ[i]? = some (.bor d) := by cases b; exact .inr q; exact .inl q
  have hb : (if b then Pv.W.own d else .bor d) = .own d ∨ (if b then Pv.W.own d else .bor d) = .bor d := by cases b; exact .inr rfl; exact .inl rfl
  have hiH : Heldish ρ i := ⟨d, by rcases hq with z | z; exact .inl z; exact .inr (.inl z)⟩
  have heldS : ∀ j, Heldish (ρ.set i (.lck d)) j → Heldish ρ j := fun j ⟨x, hx⟩ => by
    by_cases hj : j = i
    · subst hj; exact hiH
    · rw [set_at (w' := .un) hi, if_neg hj] at hx; exact ⟨x, hx⟩
  have ownS : ∀ a, Own σ (ρ.set i (.lck d)) a → Own σ ρ a ∧ ∃ j, j ≠ i ∧ Ownish ρ j ∧ σ[j]? = some (some (.ref a)) := fun a ⟨j, ⟨x, hx⟩, e⟩ => by
    have hj : j ≠ i := fun z => by
      subst z
      rw [set_at (w' := .un) hi, if_pos rfl] at hx
      rcases hx with y | y <;> cases y
    rw [set_at (w' := .un) hi, if_neg hj] at hx
    exact ⟨⟨j, ⟨x, hx⟩, e⟩, j, hj, ⟨x, hx⟩, e⟩
  obtain ⟨a0, e0, f0, c0⟩ := ok.obj i d (by rcases hq with z | z; exact .inl z; exact .inr (.inl z))
  have own0 : Own σ ρ a0 := ⟨i, ⟨d, hq⟩, e0⟩
  refine ⟨⟨ok.le, by rw [List.length_set]; exact ok.len, fun j x hx => ?_, fun j x hx => ?_, fun j k a hj hk => ok.inj j k a (heldS j hj) (heldS k hk)⟩, fun a e z => ?_, fun F' H' σ' ρ' g => ?_⟩
  · have hj : j ≠ i := fun z => by subst z; rw [set_at (w' := .un) hi, if_pos rfl] at hx; cases hx
    rw [set_at (w' := .un) hi, if_neg hj] at hx
    exact ok.dat j x hx
  · by_cases hj : j = i
    · subst hj
      rw [set_at (w' := .un) hi, if_pos rfl] at hx
      have : x = d := by rcases hx with y | y | y <;> first | (cases y; rfl) | cases y
      subst this
      exact ⟨a0, e0, f0, c0⟩
    · rw [set_at (w' := .un) hi, if_neg hj] at hx
      exact ok.obj j x hx
  · obtain ⟨_, j, hj, ho, ej⟩ := ownS a z
    exact hj (ok.inj j i a ho.held hiH ej e)
  · obtain ⟨hl', es'⟩ := g.lckF i d (by rw [set_at (w' := .un) hi, if_pos rfl])
    have hi' : i < ρ'.length := (List.getElem?_eq_some_iff.mp hl').1
    have heldU : ∀ j, Heldish (ρ'.set i (if b then .own d else .bor d)) j → Heldish ρ' j := fun j ⟨x, hx⟩ => by
      by_cases hj : j = i
      · subst hj; exact ⟨d, .inr (.inr hl')⟩
      · rw [set_at (w' := .un) hi', if_neg hj] at hx; exact ⟨x, hx⟩
    refine ⟨⟨g.ok.le, by rw [List.length_set]; exact g.ok.len, fun j x hx => ?_, fun j x hx => ?_, fun j k a hj hk => g.ok.inj j k a (heldU j hj) (heldU k hk)⟩, g.grow, fun a h1 h2 => ?_, fun a o h1 h2 => g.frame a o h1 fun z => h2 (ownS a z).1, g.pers, fun a ⟨j, ⟨x, hx⟩, ej⟩ => ?_, fun j x hx => ?_, fun j x hx => ?_, fun j x hx => ?_, fun j ⟨w, hw, nw⟩ => ?_⟩
    · have hj : j ≠ i := fun z => by
        subst z
        rw [set_at (w' := .un) hi', if_pos rfl] at hx
        rcases hb with y | y <;> (rw [y] at hx; cases hx)
      rw [set_at (w' := .un) hi', if_neg hj] at hx
      exact g.ok.dat j x hx
    · by_cases hj : j = i
      · subst hj
        rw [set_at (w' := .un) hi', if_pos rfl] at hx
        have : x = d := by
          rcases hb with y | y <;> (rw [y] at hx; rcases hx with z | z | z <;> first | (cases z; rfl) | cases z)
        subst this
        exact g.ok.obj j x (.inr (.inr hl'))
      · rw [set_at (w' := .un) hi', if_neg hj] at hx
        exact g.ok.obj j x hx
    · rcases g.fnew a h1 h2 with z | z
      · exact .inl z
      · exact .inr (ownS a z).1
    · by_cases hj : j = i
      · subst hj
        rw [es', e0] at ej
        cases ej
        exact .inl own0
      · rw [set_at (w' := .un) hi', if_neg hj] at hx
        rcases g.sub a ⟨j, ⟨x, hx⟩, ej⟩ with z | z
        · exact .inl (ownS a z).1
        · exact .inr z
    · have hj : j ≠ i := fun z => by subst z; rcases hq with y | y <;> (rw [y] at hx; cases hx)
      obtain ⟨h1, e1⟩ := g.lckF j x (by rw [set_at (w' := .un) hi, if_neg hj]; exact hx)
      exact ⟨by rw [set_at (w' := .un) hi', if_neg hj]; exact h1, e1⟩
    · have hj : j ≠ i := fun z => by
        subst z
        rw [set_at (w' := .un) hi', if_pos rfl] at hx
        rcases hb with y | y <;> (rw [y] at hx; cases hx)
      rw [set_at (w' := .un) hi', if_neg hj] at hx
      obtain ⟨h1, e1⟩ := g.lckB j x hx
      rw [set_at (w' := .un) hi, if_neg hj] at h1
      exact ⟨h1, e1⟩
    · by_cases hj : j = i
      · subst hj
        cases b with
        | true => rw [if_pos rfl] at q; rw [q] at hx; cases hx
        | false => exact ⟨d, by rw [set_at (w' := .un) hi', if_pos rfl]; rfl, es'⟩
      · obtain ⟨d', h1, e1⟩ := g.bor j x (by rw [set_at (w' := .un) hi, if_neg hj]; exact hx)
        exact ⟨d', by rw [set_at (w' := .un) hi', if_neg hj]; exact h1, e1⟩
    · by_cases hj : j = i
      · subst hj
        refine ⟨_, by rw [set_at (w' := .un) hi', if_pos rfl], ?_⟩
        rcases hb with y | y <;> (rw [y]; simp)
      · obtain ⟨w', h1, n1⟩ := g.live j ⟨w, by rw [set_at (w' := .un) hi, if_neg hj]; exact hw, nw⟩
        exact ⟨w', by rw [set_at (w' := .un) hi', if_neg hj]; exact h1, n1⟩
end
end Pv

/-! Pv11: targets, what is walked, comprehensions. -/
namespace Pv
open PySem PySem.Spec L2
open PyProof.Rows hiding St
mutual
def tgSlots : Tg → List Nat
  | .name i => [i]
  | .tup ts => tgsSlots ts
def tgsSlots : Tgs → List Nat
  | .nil => []
  | .cons t r => tgSlots t ++ tgsSlots r
end
section
variable {K : PySem.W.Frag} {F0 H0 F H F' H' : Hp} {σ0 σ σ' : L2.St} {ρ0 ρ ρ' ρ1 : Env} {vs : List Nat}
/-- a name is stored with data -/
theorem set_dat {i : Nat} {d : D} {v : V} (g : Go K F0 H0 σ0 ρ0 F H σ ρ) (r : Rep K F d v) (h : setW ρ i (.dat d) = some ρ') : Go K F0 H0 σ0 ρ0 F H (σ.set i (some v)) ρ' := by
  have hs : ρ' = ρ.set i (.dat d) ∧ i < ρ.length ∧ (∀ x, ρ[i]? ≠ some (.bor x)) ∧ (∀ x, ρ[i]? ≠ some (.lck x)) := by
    unfold setW at h
    split at h
    · cases h
    · cases h
    · rename_i w h1 h2 e
      cases h
      refine ⟨rfl, (List.getElem?_eq_some_iff.mp e).1, fun x z => ?_, fun x z => ?_⟩
      · rw [e] at z; cases z; exact h1 x rfl
      · rw [e] at z; cases z; exact h2 x rfl
    · cases h
  obtain ⟨rfl, hi, nb, nl⟩ := hs
  have hi2 : i < σ.length := by rw [← g.ok.len]; exact hi
  have at_ : ∀ j, (ρ.set i (.dat d))[j]? = if j = i then some (.dat d) else ρ[j]? := fun j => set_at (w' := .un) hi
  have atσ : ∀ j, (σ.set i (some v))[j]? = if j = i then some (some v) else σ[j]? := fun j => by
    by_cases hj : j = i
    · subst hj; rw [List.getElem?_set_self hi2, if_pos rfl]
    · rw [List.getElem?_set_ne (Ne.symm hj), if_neg hj]
  have held : ∀ j, Heldish (ρ.set i (.dat d)) j → j ≠ i ∧ Heldish ρ j := fun j ⟨x, hx⟩ => by
    rw [at_] at hx
    by_cases hj : j = i
    · rw [if_pos hj] at hx; rcases hx with y | y | y <;> cases y
    · rw [if_neg hj] at hx; exact ⟨hj, x, hx⟩
  refine ⟨⟨g.ok.le, by rw [List.length_set, List.length_set]; exact g.ok.len, fun j x hx => ?_, fun j x hx => ?_, fun j k a hj hk e1 e2 => ?_⟩, g.grow, g.fnew, g.frame, g.pers, fun a ⟨j, ⟨x, hx⟩, e⟩ => ?_, fun j x hx => ?_, fun j x hx => ?_, fun j x hx => ?_, fun j hx => ?_⟩
  · rw [at_] at hx
    rw [atσ]
    by_cases hj : j = i
    · rw [if_pos hj] at hx ⊢
      cases hx
      exact ⟨v, rfl, r⟩
    · rw [if_neg hj] at hx ⊢
      exact g.ok.dat j x hx
  · have hj := (held j ⟨x, hx⟩).1
    rw [at_, if_neg hj] at hx
    rw [atσ, if_neg hj]
    exact g.ok.obj j x hx
  · obtain ⟨nj, hj⟩ := held j hj
    obtain ⟨nk, hk⟩ := held k hk
    rw [atσ, if_neg nj] at e1
    rw [atσ, if_neg nk] at e2
    exact g.ok.inj j k a hj hk e1 e2
  · have hh := held j ⟨x, by rcases hx with z | z; exact .inl z; exact .inr (.inl z)⟩
    rw [at_, if_neg hh.1] at hx
    rw [atσ, if_neg hh.1] at e
    exact g.sub a ⟨j, ⟨x, hx⟩, e⟩
  · obtain ⟨h1, e1⟩ := g.lckF j x hx
    have hj : j ≠ i := fun z => by subst z; exact nl x h1
    exact ⟨by rw [at_, if_neg hj]; exact h1, by rw [atσ, if_neg hj]; exact e1⟩
  · have hj := (held j ⟨x, .inr (.inr hx)⟩).1
    rw [at_, if_neg hj] at hx
    rw [atσ, if_neg hj]
    exact g.lckB j x hx
  · obtain ⟨d', h1, e1⟩ := g.bor j x hx
    have hj : j ≠ i := fun z => by subst z; exact nb d' h1
    exact ⟨d', by rw [at_, if_neg hj]; exact h1, by rw [atσ, if_neg hj]; exact e1⟩
  · obtain ⟨w, hw, nw⟩ := g.live j hx
    by_cases hj : j = i
    · exact ⟨_, by rw [at_, if_pos hj], by simp⟩
    · exact ⟨w, by rw [at_, if_neg hj]; exact hw, nw⟩
/-- a name is stored with a new object -/
theorem set_own {i : Nat} {d : D} {v : V} (g : Go K F0 H0 σ0 ρ0 F H σ ρ) (r : RepA K H0 F H σ ρ (.fr d) v) (h : setW ρ i (.own d) = some ρ') : Go K F0 H0 σ0 ρ0 F H (σ.set i (some v)) ρ' := by
  obtain ⟨b, rfl, b0, fb, nb0, cb⟩ := r
  have hs : ρ' = ρ.set i (.own d) ∧ i < ρ.length ∧ (∀ x, ρ[i]? ≠ some (.bor x)) ∧ (∀ x, ρ[i]? ≠ some (.lck x)) := by
    unfold setW at h
    split at h
    · cases h
    · cases h
    · rename_i w h1 h2 e
      cases h
      refine ⟨rfl, (List.getElem?_eq_some_iff.mp e).1, fun x z => ?_, fun x z => ?_⟩
      · rw [e] at z; cases z; exact h1 x rfl
      · rw [e] at z; cases z; exact h2 x rfl
    · cases h
  obtain ⟨rfl, hi, nb, nl⟩ := hs
  have hi2 : i < σ.length := by rw [← g.ok.len]; exact hi
  have at_ : ∀ j, (ρ.set i (.own d))[j]? = if j = i then some (.own d) else ρ[j]? := fun j => set_at (w' := .un) hi
  have atσ : ∀ j, (σ.set i (some (V.ref b)))[j]? = if j = i then some (some (V.ref b)) else σ[j]? := fun j => by
    by_cases hj : j = i
    · subst hj; rw [List.getElem?_set_self hi2, if_pos rfl]
    · rw [List.getElem?_set_ne (Ne.symm hj), if_neg hj]
  have held : ∀ j, Heldish (ρ.set i (.own d)) j → j ≠ i → Heldish ρ j := fun j ⟨x, hx⟩ hj => by
    rw [at_, if_neg hj] at hx; exact ⟨x, hx⟩
  refine ⟨⟨g.ok.le, by rw [List.length_set, List.length_set]; exact g.ok.len, fun j x hx => ?_, fun j x hx => ?_, fun j k a hj hk e1 e2 => ?_⟩, g.grow, g.fnew, g.frame, g.pers, fun a ⟨j, ⟨x, hx⟩, e⟩ => ?_, fun j x hx => ?_, fun j x hx => ?_, fun j x hx => ?_, fun j hx => ?_⟩
  · rw [at_] at hx
    rw [atσ]
    by_cases hj : j = i
    · rw [if_pos hj] at hx; cases hx
    · rw [if_neg hj] at hx ⊢
      exact g.ok.dat j x hx
  · rw [at_] at hx
    rw [atσ]
    by_cases hj : j = i
    · rw [if_pos hj] at hx ⊢
      have : x = d := by rcases hx with y | y | y <;> first | (cases y; rfl) | cases y
      subst this
      exact ⟨b, rfl, fb, cb⟩
    · rw [if_neg hj] at hx ⊢
      exact g.ok.obj j x hx
  · rw [atσ] at e1 e2
    by_cases hj' : j = i
    · by_cases hk' : k = i
      · rw [hj', hk']
      · rw [if_pos hj'] at e1
        rw [if_neg hk'] at e2
        cases e1
        exact absurd ⟨k, held k hk hk', e2⟩ nb0
    · by_cases hk' : k = i
      · rw [if_neg hj'] at e1
        rw [if_pos hk'] at e2
        cases e2
        exact absurd ⟨j, held j hj hj', e1⟩ nb0
      · rw [if_neg hj'] at e1
        rw [if_neg hk'] at e2
        exact g.ok.inj j k a (held j hj hj') (held k hk hk') e1 e2
  · rw [at_] at hx
    rw [atσ] at e
    by_cases hj : j = i
    · rw [if_pos hj] at e
      cases e
      exact .inr b0
    · rw [if_neg hj] at hx e
      exact g.sub a ⟨j, ⟨x, hx⟩, e⟩
  · obtain ⟨h1, e1⟩ := g.lckF j x hx
    have hj : j ≠ i := fun z => by subst z; exact nl x h1
    exact ⟨by rw [at_, if_neg hj]; exact h1, by rw [atσ, if_neg hj]; exact e1⟩
  · have hj : j ≠ i := fun z => by rw [at_, if_pos z] at hx; cases hx
    rw [at_, if_neg hj] at hx
    rw [atσ, if_neg hj]
    exact g.lckB j x hx
  · obtain ⟨d', h1, e1⟩ := g.bor j x hx
    have hj : j ≠ i := fun z => by subst z; exact nb d' h1
    exact ⟨d', by rw [at_, if_neg hj]; exact h1, by rw [atσ, if_neg hj]; exact e1⟩
  · obtain ⟨w, hw, nw⟩ := g.live j hx
    by_cases hj : j = i
    · exact ⟨_, by rw [at_, if_pos hj], by simp⟩
    · exact ⟨w, by rw [at_, if_neg hj]; exact hw, nw⟩
end
/-- a target's reading -/
def gT (Γ : Gm) (t : Tg) : TG := fun v σ H Q => ∃ F ρ d ρ', Ok Γ.K F H σ ρ ∧ Rep Γ.K F d v ∧ tgD t d ρ = some ρ' ∧ ∀ σ', Go Γ.K F H σ ρ F H σ' ρ' → σ'.length = σ.length → (∀ i, i ∉ tgSlots t → σ'[i]? = σ[i]?) → Q σ' H
def gTs (Γ : Gm) (t : Tgs) : TGs := fun vs σ H Q => ∃ F ρ ds ρ', Ok Γ.K F H σ ρ ∧ Reps Γ.K F ds vs ∧ tgsD t ds ρ = some ρ' ∧ ∀ σ', Go Γ.K F H σ ρ F H σ' ρ' → σ'.length = σ.length → (∀ i, i ∉ tgsSlots t → σ'[i]? = σ[i]?) → Q σ' H
theorem PG.of {X : Cx} {e : Expr} {t t' : TG} (h : PG X e t) (i : ∀ v σ H Q, t' v σ H Q → t v σ H Q) : PG X e t' := ⟨fun pins s σ H v u Q I r q => h.run pins s σ H v u Q I r (i v σ H Q q)⟩
theorem PGs.of {X : Cx} {e : List Expr} {t t' : TGs} (h : PGs X e t) (i : ∀ v σ H Q, t' v σ H Q → t v σ H Q) : PGs X e t' := ⟨fun pins s σ H v u Q I r q => h.run pins s σ H v u Q I r (i v σ H Q q)⟩
section
variable {X : Cx} {Γ : Gm} {e : Expr} {es : List Expr} {pos : Pos} {x : Str} {i : Nat}
theorem pg_name_ (hN : X.N.Nodup) (hi : X.N[i]? = some x) (hx : Loc X.env.scope x) (hf : X.fn x = true ∨ X.env.scope.names.lookup x = some .local) : PG X (.Name x pos) (gT Γ (.name i)) := by
  refine PG.of (pg_name hN hi hx hf) fun v σ H Q h => ?_
  obtain ⟨F, ρ, d, ρ', ok, r, e, h⟩ := h
  refine h _ (set_dat (Go.refl ok) r (by rw [tgD] at e; exact e)) List.length_set fun j hj => ?_
  have : j ≠ i := fun z => hj (by rw [z, tgSlots]; exact List.mem_cons_self)
  exact List.getElem?_set_ne (Ne.symm this)
theorem pgs_nil_ : PGs X [] (gTs Γ .nil) := by
  refine PGs.of pgs_nil fun vs σ H Q h => ?_
  obtain ⟨F, ρ, ds, ρ', ok, r, e, h⟩ := h
  cases ds with
  | nil =>
    rw [Reps] at r
    have e' : some ρ = some ρ' := by rw [tgsD] at e; exact e
    cases e'
    exact ⟨r, h σ (Go.refl ok) rfl fun _ _ => rfl⟩
  | cons d ds => simp [tgsD] at e
theorem pgs_cons_ {t : Tg} {ts : Tgs} (h1 : PG X e (gT Γ t)) (h2 : PGs X es (gTs Γ ts)) (hs : (assignEach (e :: es) X.env).map (·.2) = assign e X.env :: (assignEach es X.env).map (·.2)) : PGs X (e :: es) (gTs Γ (.cons t ts)) := by
  refine PGs.of (pgs_cons h1 h2 hs) fun vs σ H Q h => ?_
  obtain ⟨F, ρ, ds, ρ', ok, r, e, h⟩ := h
  cases ds with
  | nil => simp [tgsD] at e
  | cons d ds =>
    rw [Reps] at r
    obtain ⟨v, vs', rfl, r1, r2⟩ := r
    rw [tgsD] at e
    obtain ⟨ρ1, e1, e2⟩ := Option.bind_eq_some_iff.mp e
    refine ⟨v, vs', rfl, F, ρ, d, ρ1, ok, r1, e1, fun σ1 g1 l1 o1 => ⟨F, ρ1, ds, ρ', g1.ok, r2, e2, fun σ2 g2 l2 o2 => h σ2 (g1.trans g2) (l2.trans l1) fun j hj => ?_⟩⟩
    rw [tgsSlots] at hj
    rw [o2 j fun z => hj (List.mem_append_right _ z), o1 j fun z => hj (List.mem_append_left _ z)]
theorem pg_tup_ {ts : Tgs} {k : Nat} (hK : X.K = Γ.K) (hc : X.calm = true) (h : PGs X es (gTs Γ ts)) (hn : (assignEach es X.env).length = es.length) (hst : (assignEach es X.env).findIdx? (·.1) = none)
    (hlen : ∀ ds ρ ρ', tgsD ts ds ρ = some ρ' → ds.length = es.length) : PG X (.Tuple es k pos) (gT Γ (.tup ts)) := by
  refine PG.of (pg_tup hc h hn hst) fun v σ H Q h => ?_
  obtain ⟨F, ρ, d, ρ', ok, r, e, h⟩ := h
  cases d with
  | tup ds =>
    rw [tgD] at e
    rw [Rep] at r
    obtain ⟨a, xs, rfl, s, p⟩ := r
    rw [hK]
    refine ⟨a, xs, rfl, Same.sqT ok.le s, by rw [← p.length]; exact hlen ds ρ ρ' e, F, ρ, ds, ρ', ok, p, e, fun σ' g l o => h σ' g l fun j hj => o j fun z => hj (by rw [tgSlots]; exact z)⟩
  | _ => simp [tgD] at e
end

/-! ### what is walked -/
/-- J walks ds at these heaps -/
def WalkAt (K : PySem.W.Frag) (F' H' : Hp) (ds : List D) (J : L2.It) : Prop :=
  (∀ i, i < ds.length → J.go i H') ∧ (∀ i d x H2, ds[i]? = some d → J.yld i H' x H2 → ∃ F2, Ext F' H' F2 H2 ∧ Rep K F2 d x) ∧ (∀ i, ds.length ≤ i → J.stop i H')
/-- J walks these items, as long as its source stands -/
def RepI (K : PySem.W.Frag) (F H : Hp) (σ : L2.St) (ρ : Env) (p : A × List D) (J : L2.It) : Prop :=
  ∃ src : Option (Addr × HO), (∀ a o, src = some (a, o) → H a = some o ∧ (¬ Hld σ ρ a ∨ ∃ i, p.1 = .pl i ∧ σ[i]? = some (some (.ref a)) ∧ Heldish ρ i)) ∧
    ∀ F' H', Same F F' → Same F' H' → (∀ a o, src = some (a, o) → H' a = some o) → WalkAt K F' H' p.2 J
def Ti (Γ : Gm) (φ : Phi) (W : WX) (c : Pv.It) : TI := fun σ H R => ∃ F ρ, Ok Γ.K F H σ ρ ∧ Post Γ F H σ ρ W (evI φ c ρ) (fun F' H' ρ' p J => RepI Γ.K F' H' σ ρ' p J) R
theorem PI.of {X : Cx} {tg e : Expr} {t t' : TI} (h : PI X tg e t) (i : ∀ σ H Q, t' σ H Q → t σ H Q) : PI X tg e t' := ⟨fun pins s σ H R I q => h.run pins s σ H R I (i σ H R q)⟩
section
variable {K : PySem.W.Frag} {F H : Hp} {ds : List D}
theorem walk_l {a : Addr} {xs : List V} (le : Same F H) (s : SqL K H a xs) (r : Reps K F ds xs) : WalkAt K F H ds (Itl K a) := by
  refine ⟨fun i hi => ?_, fun i d x H2 hd hy => ?_, fun i hi => ⟨xs, s, by rw [← r.length]; exact hi⟩⟩
  · obtain ⟨x, e, _⟩ := r.get (List.getElem?_eq_getElem hi)
    exact ⟨xs, x, s, e⟩
  · obtain ⟨rfl, hx⟩ := hy
    obtain ⟨x', e, p⟩ := r.get hd
    rw [hx xs s] at e
    cases e
    exact ⟨F, .refl le, p⟩
theorem walk_t {a : Addr} {xs : List V} (le : Same F H) (s : SqT K H a xs) (r : Reps K F ds xs) : WalkAt K F H ds (Itt K a) := by
  refine ⟨fun i hi => ?_, fun i d x H2 hd hy => ?_, fun i hi => ⟨xs, s, by rw [← r.length]; exact hi⟩⟩
  · obtain ⟨x, e, _⟩ := r.get (List.getElem?_eq_getElem hi)
    exact ⟨xs, x, s, e⟩
  · obtain ⟨rfl, hx⟩ := hy
    obtain ⟨x', e, p⟩ := r.get hd
    rw [hx xs s] at e
    cases e
    exact ⟨F, .refl le, p⟩
theorem walk_s {z : Str} (le : Same F H) : WalkAt K F H (z.cps.toList.map fun c => D.str ⟨#[c]⟩) (Its z) := by
  refine ⟨fun i hi => ?_, fun i d x H2 hd hy => ?_, fun i hi => ?_⟩
  · show i < z.cps.size
    rw [List.length_map, Array.length_toList] at hi
    exact hi
  · obtain ⟨rfl, c, hc, rfl⟩ := hy
    refine ⟨F, .refl le, ?_⟩
    rw [List.getElem?_map, Array.getElem?_toList, hc] at hd
    cases hd
    exact .str_
  · show z.cps.size ≤ i
    rw [List.length_map, Array.length_toList] at hi
    exact hi
theorem rng_at {lo hi : Int} {i : Nat} {d : D} (h : (rngD lo hi)[i]? = some d) : i < (hi - lo).toNat ∧ d = .int (lo + i) := by
  unfold rngD at h
  rw [List.getElem?_map] at h
  obtain ⟨k, hk, e⟩ := Option.map_eq_some_iff.mp h
  obtain ⟨h1, h2⟩ := List.getElem?_eq_some_iff.mp hk
  rw [List.getElem_range] at h2
  rw [List.length_range] at h1
  subst h2
  exact ⟨h1, e.symm⟩
theorem rng_len {lo hi : Int} : (rngD lo hi).length = (hi - lo).toNat := by
  unfold rngD
  rw [List.length_map, List.length_range]
theorem walk_r {lo hi : Int} (le : Same F H) : WalkAt K F H (rngD lo hi) (Itr lo (hi - lo).toNat) := by
  refine ⟨fun i hi => ?_, fun i d x H2 hd hy => ?_, fun i hi => ?_⟩
  · rw [rng_len] at hi
    exact hi
  · obtain ⟨rfl, rfl⟩ := hy
    obtain ⟨_, rfl⟩ := rng_at hd
    exact ⟨F, .refl le, .int_⟩
  · rw [rng_len] at hi
    exact hi
end
/-- a list, a tuple or a text -/
theorem pi_any {X : Cx} {tg l : Expr} {tl : TE} (hl : PE X l tl) : PI X tg l (fun σ H R => tl σ H fun x H1 => (∃ a xs, x = .ref a ∧ SqL X.K H1 a xs ∧ R (Itl X.K a) H1) ∨ (∃ a xs, x = .ref a ∧ SqT X.K H1 a xs ∧ R (Itt X.K a) H1) ∨ ∃ z, x = .str z ∧ R (Its z) H1) := by
  refine ⟨fun pins s σ H R I h => ?_⟩
  refine thn (hl.run pins s σ H _ I h) fun v s1 ⟨x, H1, I1, r1, q1⟩ => ?_
  rcases q1 with ⟨a, xs, e, hq, q⟩ | ⟨a, xs, e, hq, q⟩ | ⟨z, e, q⟩
  · subst e
    cases r1
    obtain ⟨its, rv, p, hz⟩ := I1.list hq
    refine wpAny_pyIter_list p.isList ?_
    refine ⟨s1.heap.objs.size, [s1.heap.objs.size], _, _, H1, rfl, I1.kept (t' := s1.toks) fun b o e => Heap.get?_push_of_some _ e, turn_list a _, ⟨_, Heap.get?_push_size _ rfl, rfl, rfl⟩, fun b hb => ?_, q⟩
    have e : b = s1.heap.objs.size := by simpa using hb
    subst e
    exact I1.fpOk (Nat.le_refl _) (I1.hok.fresh (Nat.le_refl _))
  · subst e
    cases r1
    obtain ⟨its, rv, p, hz⟩ := I1.tuple hq
    refine wpAny_pyIter_tuple (show s1.heap.IsTuple a its.toArray from p) ?_
    refine ⟨s1.heap.objs.size, [s1.heap.objs.size], _, _, H1, rfl, I1.kept (t' := s1.toks) fun b o e => Heap.get?_push_of_some _ e, turn_tuple a _, ⟨_, Heap.get?_push_size _ rfl, rfl, rfl⟩, fun b hb => ?_, q⟩
    have e : b = s1.heap.objs.size := by simpa using hb
    subst e
    exact I1.fpOk (Nat.le_refl _) (I1.hok.fresh (Nat.le_refl _))
  · subst e
    obtain ⟨t, rfl⟩ := r1
    cases ha : z.cps.all (· < 128)
    · exact wpAny_pyIter_wide ha (pi_one (tk := s1.toks) I1 _ (turn_str _ z t "str_iterator" (.inr rfl)) ⟨_, Heap.get?_push_size _ rfl, rfl, rfl⟩ q)
    · exact wpAny_pyIter_ascii ha (pi_one (tk := s1.toks) I1 _ (turn_str _ z t "str_ascii_iterator" (.inl rfl)) ⟨_, Heap.get?_push_size _ rfl, rfl, rfl⟩ q)
section
variable {X : Cx} {Γ : Gm} {φ : Phi} {W : WX} {a b e tg : Expr} {ca cb ce : E} {pos p : Pos}
theorem pi_ex (hK : X.K = Γ.K) (he : PE X e (Tx Γ φ W ce)) : PI X tg e (Ti Γ φ W (.ex ce)) := by
  refine PI.of (pi_any he) fun σ H R h => ?_
  obtain ⟨F, ρ, ok, h⟩ := h
  rw [evI] at h
  refine ⟨F, ρ, ok, Post.bnd h fun x ρ1 h v F1 H1 g1 r1 => ?_⟩
  obtain ⟨γ, e0, h⟩ := h.opt
  obtain ⟨ds, e1, rfl⟩ := Option.map_eq_some_iff.mp e0
  obtain ⟨dx, e2, e3⟩ := Option.bind_eq_some_iff.mp e1
  rw [hK]
  have rd : Rep Γ.K F1 dx v ∨ ∃ a ys xs, v = .ref a ∧ dx = .lst ys ∧ H1 a = some (.lst xs) ∧ Reps Γ.K F1 ys xs ∧ (¬ Hld σ ρ1 a ∨ ∃ i, x = .pl i ∧ σ[i]? = some (some (.ref a)) ∧ Heldish ρ1 i) := by
    cases x with
    | d x =>
      have e2' : x = dx := Option.some.inj e2
      subst e2'
      exact .inl r1
    | fr x =>
      have e2' : x = dx := Option.some.inj e2
      subst e2'
      obtain ⟨a, ea, _, _, nh, c⟩ := r1
      cases x with
      | lst ys =>
        obtain ⟨xs, eo, rs⟩ := c
        exact .inr ⟨a, ys, xs, ea, rfl, eo, rs, .inl nh⟩
      | gl b ys => cases e3
      | _ => exact c.elim
    | ft ys s => cases e2
    | pl i =>
      have g' : (ρ1[i]?).bind Pv.W.cont = some dx := e2
      obtain ⟨e, w, hw, nw⟩ := r1
      rw [hw] at g'
      have held : ∀ y, (ρ1[i]? = some (.own y) ∨ ρ1[i]? = some (.bor y) ∨ ρ1[i]? = some (.lck y)) → y = dx → ∃ a ys xs, v = .ref a ∧ dx = .lst ys ∧ H1 a = some (.lst xs) ∧ Reps Γ.K F1 ys xs ∧ (¬ Hld σ ρ1 a ∨ ∃ j, A.pl i = .pl j ∧ σ[j]? = some (some (.ref a)) ∧ Heldish ρ1 j) := fun y hy ey => by
        subst ey
        obtain ⟨a, ea, _, c⟩ := g1.ok.obj i y hy
        rw [e] at ea
        cases ea
        cases y with
        | lst ys =>
          obtain ⟨xs, eo, rs⟩ := c
          exact ⟨a, ys, xs, rfl, rfl, eo, rs, .inr ⟨i, rfl, e, _, hy⟩⟩
        | gl b ys => cases e3
        | _ => exact c.elim
      cases w with
      | un => exact absurd rfl nw
      | dat y =>
        have ex : y = dx := Option.some.inj g'
        subst ex
        obtain ⟨u, eu, c⟩ := g1.ok.dat i y hw
        rw [e] at eu
        cases eu
        exact .inl c
      | own y => exact .inr (held y (.inl hw) (Option.some.inj g'))
      | bor y => exact .inr (held y (.inr (.inl hw)) (Option.some.inj g'))
      | lck y => exact .inr (held y (.inr (.inr hw)) (Option.some.inj g'))
  rcases rd with rd | ⟨a, ys, xs, rfl, rfl, eo, rs, nh⟩
  · cases dx with
    | lst ys =>
      cases e3
      rw [Rep] at rd
      obtain ⟨a, xs, rfl, s, pr⟩ := rd
      exact .inl ⟨a, xs, rfl, .inl (Same.rd g1.ok.le s), h _ F1 H1 g1 ⟨none, (fun _ _ z => by cases z), fun F' H' gr le' _ => walk_l le' (.inl (Same.rd le' (Same.rd gr s))) (pr.mono gr)⟩⟩
    | scr ys =>
      cases e3
      rw [Rep] at rd
      obtain ⟨a, xs, rfl, s, pr⟩ := rd
      exact .inl ⟨a, xs, rfl, Same.sqL g1.ok.le s, h _ F1 H1 g1 ⟨none, (fun _ _ z => by cases z), fun F' H' gr le' _ => walk_l le' (Same.sqL le' (Same.sqL gr s)) (pr.mono gr)⟩⟩
    | tup ys =>
      cases e3
      rw [Rep] at rd
      obtain ⟨a, xs, rfl, s, pr⟩ := rd
      exact .inr (.inl ⟨a, xs, rfl, Same.sqT g1.ok.le s, h _ F1 H1 g1 ⟨none, (fun _ _ z => by cases z), fun F' H' gr le' _ => walk_t le' (Same.sqT le' (Same.sqT gr s)) (pr.mono gr)⟩⟩)
    | str z =>
      cases e3
      rw [Rep] at rd
      subst rd
      exact .inr (.inr ⟨z, rfl, h _ F1 H1 g1 ⟨none, (fun _ _ z => by cases z), fun F' H' gr le' _ => walk_s le'⟩⟩)
    | _ => cases e3
  · cases e3
    refine .inl ⟨a, xs, rfl, .inl (.inl eo), h _ F1 H1 g1 ⟨some (a, .lst xs), fun b o z => ?_, fun F' H' gr le' st => walk_l le' (.inl (.inl (st a _ rfl))) (rs.mono gr)⟩⟩
    cases z
    exact ⟨eo, nh⟩
theorem pi_rng1_ (hg : Gl X "range") (hm : X.mg "range" = none) (ha : PE X a (Tx Γ φ W ca)) (hs : starEach [a] X.env = [(false, eval a X.env)]) : PI X tg (.Call (.Name "range" p) [a] [] pos) (Ti Γ φ W (.rng1 ca)) := by
  refine PI.of (pi_range1 hg hm (pa_cons ha pa_nil hs) hs) fun σ H R h => ?_
  obtain ⟨F, ρ, ok, h⟩ := h
  rw [evI] at h
  refine ⟨F, ρ, ok, Post.bnd h fun x ρ1 h v F1 H1 g1 r1 => ?_⟩
  cases x with
  | d x =>
    cases x with
    | int j =>
      have r1' : Rep Γ.K F1 (.int j) v := r1
      rw [Rep] at r1'
      subst r1'
      have h' : Post Γ F H σ ρ W (if rngOk 0 j = true then Pv.R.ok (A.d .non, rngD 0 j) ρ1 else .stuck) (fun F' H' ρ' p J => RepI Γ.K F' H' σ ρ' p J) R := h
      by_cases hz : rngOk 0 j = true
      · rw [if_pos hz] at h'
        have hz' := rngOk_says hz
        refine ⟨j, rfl, hz'.2.2.1, hz'.2.2.2, ?_⟩
        have e : j.toNat = (j - 0).toNat := by rw [Int.sub_zero]
        rw [e]
        exact h' _ F1 H1 g1 ⟨none, (fun _ _ z => by cases z), fun F' H' gr le' _ => walk_r le'⟩
      · rw [if_neg hz] at h'
        exact h'.elim
    | _ => exact h.elim
  | _ => exact h.elim
theorem pi_rng2_ (hg : Gl X "range") (hm : X.mg "range" = none) (ha : PE X a (Tx Γ φ W ca)) (hb : PE X b (Tx Γ φ W cb)) (hs : starEach [a, b] X.env = [(false, eval a X.env), (false, eval b X.env)]) (hs2 : starEach [b] X.env = [(false, eval b X.env)]) :
    PI X tg (.Call (.Name "range" p) [a, b] [] pos) (Ti Γ φ W (.rng2 ca cb)) := by
  refine PI.of (pi_range2 hg hm (pa_cons ha (pa_cons hb pa_nil hs2) (by rw [hs, hs2])) hs hs2) fun σ H R h => ?_
  obtain ⟨F, ρ, ok, h⟩ := h
  rw [evI] at h
  refine ⟨F, ρ, ok, Post.bnd h fun x ρ1 h v F1 H1 g1 r1 => ⟨F1, ρ1, g1.ok, Post.bnd (Post.from (rep1 := fun F' H' ρ' p J => RepI Γ.K F' H' σ ρ' p J) h g1 fun _ _ _ _ _ z => z) fun y ρ2 h u F2 H2 g2 r2 => ?_⟩⟩
  cases x with
  | d x =>
    cases x with
    | int i =>
      cases y with
      | d y =>
        cases y with
        | int j =>
          have r1' : Rep Γ.K F1 (.int i) v := r1
          rw [Rep] at r1'
          subst r1'
          have r2' : Rep Γ.K F2 (.int j) u := r2
          rw [Rep] at r2'
          subst r2'
          have h' : Post Γ F1 H1 σ ρ1 W (if rngOk i j = true then Pv.R.ok (A.d .non, rngD i j) ρ2 else .stuck) (fun F' H' ρ' p J => RepI Γ.K F' H' σ ρ' p J) R := h
          by_cases hz : rngOk i j = true
          · rw [if_pos hz] at h'
            exact ⟨i, j, rfl, rngOk_says hz, h' _ F2 H2 g2 ⟨none, (fun _ _ z => by cases z), fun F' H' gr le' _ => walk_r le'⟩⟩
          · rw [if_neg hz] at h'
            exact h'.elim
        | _ => exact h.elim
      | _ => exact h.elim
    | _ => cases y <;> exact h.elim
  | _ => exact h.elim

/-! ### locked -/
theorem lock_ok {K : PySem.W.Frag} {F H : Hp} {σ : L2.St} {ρ ρ1 : Env} {x : A} {ds : List D} {J : L2.It} {un : Env → Env} (ok : Ok K F H σ ρ) (r : RepI K F H σ ρ (x, ds) J) (h : lockW ρ x = some (ρ1, un)) :
    Ok K F H σ ρ1 ∧ (∃ src : Option (Addr × HO), (∀ a o, src = some (a, o) → H a = some o ∧ ¬ Own σ ρ1 a) ∧ ∀ F' H', Same F F' → Same F' H' → (∀ a o, src = some (a, o) → H' a = some o) → WalkAt K F' H' ds J) ∧
      ∀ F' H' σ' ρ', Go K F H σ ρ1 F' H' σ' ρ' → Go K F H σ ρ F' H' σ' (un ρ') := by
  obtain ⟨src, hs, hw⟩ := r
  cases x with
  | pl i =>
    have h' : (match ρ[i]? with
      | some (.own d) => some (ρ.set i (.lck d), fun ρ => ρ.set i (.own d))
      | some (.bor d) => some (ρ.set i (.lck d), fun ρ => ρ.set i (.bor d))
      | some (.lck _) => some (ρ, id)
      | some (.dat _) => some (ρ, id)
      | _ => none) = some (ρ1, un) := h
    split at h'
    · rename_i d q
      cases h'
      obtain ⟨o1, o2, o3⟩ := lock_set true ok (by rw [if_pos rfl]; exact q)
      refine ⟨o1, ⟨src, fun a o e => ?_, hw⟩, o3⟩
      obtain ⟨ho, hn⟩ := hs a o e
      refine ⟨ho, fun z => ?_⟩
      rcases hn with hn | ⟨j, ej, es, hj⟩
      · refine hn (?_ : Hld σ ρ a)
        obtain ⟨k, ⟨y, hy⟩, ek⟩ := z
        by_cases hk : k = i
        · subst hk; exact ⟨k, ⟨d, .inl q⟩, ek⟩
        · rw [List.getElem?_set_ne (Ne.symm hk)] at hy
          exact ⟨k, ⟨y, by rcases hy with w | w; exact .inl w; exact .inr (.inl w)⟩, ek⟩
      · cases ej
        exact o2 a es z
    · rename_i d q
      cases h'
      obtain ⟨o1, o2, o3⟩ := lock_set false ok (by rw [if_neg Bool.false_ne_true]; exact q)
      refine ⟨o1, ⟨src, fun a o e => ?_, hw⟩, o3⟩
      obtain ⟨ho, hn⟩ := hs a o e
      refine ⟨ho, fun z => ?_⟩
      rcases hn with hn | ⟨j, ej, es, hj⟩
      · refine hn (?_ : Hld σ ρ a)
        obtain ⟨k, ⟨y, hy⟩, ek⟩ := z
        by_cases hk : k = i
        · subst hk; exact ⟨k, ⟨d, .inr (.inl q)⟩, ek⟩
        · rw [List.getElem?_set_ne (Ne.symm hk)] at hy
          exact ⟨k, ⟨y, by rcases hy with w | w; exact .inl w; exact .inr (.inl w)⟩, ek⟩
      · cases ej
        exact o2 a es z
    · rename_i d q
      cases h'
      refine ⟨ok, ⟨src, fun a o e => ?_, hw⟩, fun _ _ _ _ g => g⟩
      obtain ⟨ho, hn⟩ := hs a o e
      refine ⟨ho, fun z => ?_⟩
      rcases hn with hn | ⟨j, ej, es, hj⟩
      · exact hn z.hld
      · cases ej
        obtain ⟨k, ⟨y, hy⟩, ek⟩ := z
        have : k = i := ok.inj k i a (Ownish.held ⟨y, hy⟩) ⟨d, .inr (.inr q)⟩ ek es
        subst this
        rw [q] at hy
        rcases hy with w | w <;> cases w
    · rename_i d q
      cases h'
      refine ⟨ok, ⟨src, fun a o e => ?_, hw⟩, fun _ _ _ _ g => g⟩
      obtain ⟨ho, hn⟩ := hs a o e
      refine ⟨ho, fun z => ?_⟩
      rcases hn with hn | ⟨j, ej, es, hj⟩
      · exact hn z.hld
      · cases ej
        obtain ⟨y, hy⟩ := hj
        rw [q] at hy
        rcases hy with w | w | w <;> cases w
    · cases h'
  | d x =>
    cases h
    refine ⟨ok, ⟨src, fun a o e => ?_, hw⟩, fun _ _ _ _ g => g⟩
    obtain ⟨ho, hn⟩ := hs a o e
    rcases hn with hn | ⟨j, ej, _, _⟩
    · exact ⟨ho, fun z => hn z.hld⟩
    · cases ej
  | fr x =>
    cases h
    refine ⟨ok, ⟨src, fun a o e => ?_, hw⟩, fun _ _ _ _ g => g⟩
    obtain ⟨ho, hn⟩ := hs a o e
    rcases hn with hn | ⟨j, ej, _, _⟩
    · exact ⟨ho, fun z => hn z.hld⟩
    · cases ej
  | ft x y =>
    cases h
    refine ⟨ok, ⟨src, fun a o e => ?_, hw⟩, fun _ _ _ _ g => g⟩
    obtain ⟨ho, hn⟩ := hs a o e
    rcases hn with hn | ⟨j, ej, _, _⟩
    · exact ⟨ho, fun z => hn z.hld⟩
    · cases ej
end
end Pv

/-! Pv12: comprehensions. -/
namespace Pv
open PySem PySem.Spec L2
open PyProof.Rows hiding St
theorem lock_held {ρ ρ1 : Env} {x : A} {un : Env → Env} (h : lockW ρ x = some (ρ1, un)) (ρ' : Env) (j : Nat) (hj : Heldish (un ρ') j) : Heldish ρ' j ∨ Heldish ρ j := by
  have key : ∀ (i : Nat) (w : Pv.W), Heldish ρ i → Heldish (ρ'.set i w) j → Heldish ρ' j ∨ Heldish ρ j := fun i w hi h => by
    by_cases e : j = i
    · subst e; exact .inr hi
    · obtain ⟨y, hy⟩ := h
      rw [List.getElem?_set_ne (Ne.symm e)] at hy
      exact .inl ⟨y, hy⟩
  cases x with
  | pl i =>
    have h' : (match ρ[i]? with
      | some (.own d) => some (ρ.set i (.lck d), fun ρ => ρ.set i (.own d))
      | some (.bor d) => some (ρ.set i (.lck d), fun ρ => ρ.set i (.bor d))
      | some (.lck _) => some (ρ, id)
      | some (.dat _) => some (ρ, id)
      | _ => none) = some (ρ1, un) := h
    split at h'
    · rename_i d q
      cases h'
      exact key i _ ⟨d, .inl q⟩ hj
    · rename_i d q
      cases h'
      exact key i _ ⟨d, .inr (.inl q)⟩ hj
    · cases h'; exact .inl hj
    · cases h'; exact .inl hj
    · cases h'
  | d x => cases h; exact .inl hj
  | fr x => cases h; exact .inl hj
  | ft x y => cases h; exact .inl hj
section
variable {K : PySem.W.Frag} {F H F' H' : Hp} {σ σ' : L2.St} {ρ ρ' : Env}
theorem Go.keep {D : Addr} {o : HO} (g : Go K F H σ ρ F' H' σ' ρ') (hD : H D = some o) (fD : F D = none) (nh : ¬ Hld σ ρ D) : H' D = some o ∧ F' D = none ∧ ¬ Hld σ' ρ' D := by
  refine ⟨g.frame D o hD fun z => nh z.hld, ?_, fun z => ?_⟩
  · cases q : F' D with
    | none => rfl
    | some y =>
      rcases g.fnew D (by rw [q]; simp) fD with z | z
      · rw [hD] at z; cases z
      · exact absurd z.hld nh
  · rcases g.heldB z with y | y
    · exact nh y
    · rw [hD] at y; cases y
end
/-- no error in a comprehension's turns -/
def W0 : WX := fun _ _ _ _ => False
section
variable {X : Cx} {Γ : Gm} {φ : Phi} {W : WX}
theorem lc_imp {σ : L2.St} {H : Hp} {Q : VK} {celt : E} {ctg : Tg} {cit : Pv.It} {cc : T} {vs : List Nat} (hsub : ∀ i ∈ tgSlots ctg, i ∈ vs) (h : Tx Γ φ W (.lc celt ctg cit cc vs) σ H Q) :
    tLc (Ti Γ φ W cit) (gT Γ ctg) (Tt Γ φ W0 cc) (Tx Γ φ W0 celt) vs σ H Q := by
  obtain ⟨F, ρ, ok0, h⟩ := h
  rw [ev] at h
  refine ⟨F, ρ, ok0, Post.bnd h fun p ρ1 h J F1 H1 g1 r1 => ?_⟩
  obtain ⟨x, ds⟩ := p
  intro D hD
  cases ql : lockW ρ1 x with
  | none => simp only [ql] at h; exact h.elim
  | some pr =>
  obtain ⟨ρl, un⟩ := pr
  simp only [ql] at h
  by_cases pl : plainVs ρl vs = true
  case neg => rw [if_neg pl] at h; exact h.elim
  rw [if_pos pl] at h
  obtain ⟨okl, ⟨src, hsrc, hw⟩, hun⟩ := lock_ok g1.ok r1 ql
  have okw := okl.wipe vs
  have fD : ∀ {F' H' : Hp}, Same F' H' → H' D = none → F' D = none := fun {F' H'} le z => by
    cases q : F' D with
    | none => rfl
    | some y => rw [le D y q] at z; cases z
  cases qr : lcGo (ev φ celt) ctg (evT φ cc) vs ds (wipeW ρl vs) [] with
  | stuck => rw [qr] at h; exact h.elim
  | exc y ρy => rw [qr] at h; exact h.elim
  | ok dsr ρr =>
  rw [qr] at h
  have wid : L2.wipe (L2.wipe σ vs) vs = L2.wipe σ vs := wipe_ext (L2.wipe_length σ vs) fun i hi => L2.wipe_out hi
  let Inv : Nat → Hp → Prop := fun i Hc => i ≤ ds.length ∧ ∃ Fc ρc acc accD, Go Γ.K F1 H1 (L2.wipe σ vs) (wipeW ρl vs) Fc Hc (L2.wipe σ vs) ρc ∧ Hc D = some (.lst acc) ∧ Fc D = none ∧ ¬ Hld (L2.wipe σ vs) ρc D ∧ Reps Γ.K Fc accD acc ∧
    lcGo (ev φ celt) ctg (evT φ cc) vs (ds.drop i) ρc accD = .ok dsr ρr
  refine ⟨fun i m Hc => m = ds.length - i ∧ Inv i Hc, ⟨_, rfl, Nat.zero_le _, F1, _, [], [], Go.updD (Go.refl okw) hD (fD okw.le hD) (fun z => (okw.hld z).2 hD), upd_same, fD okw.le hD, fun z => (okw.hld z).2 hD, .nil, qr⟩, ?_⟩
  rintro i m Hc ⟨em, hi, Fc, ρc, acc, accD, g, hDc, fDc, nh, ra, e⟩
  have wk := hw Fc Hc g.grow g.ok.le fun a o es => g.frame a o (hsrc a o es).1 fun z => (hsrc a o es).2 (own_wipe z)
  by_cases hil : ds.length ≤ i
  · refine .inl ⟨wk.2.2 i hil, ?_⟩
    rw [List.drop_eq_nil_of_le hil] at e
    unfold lcGo at e
    cases e
    have gu := Go.unwipe okl pl g
    have gt := hun _ _ _ _ gu
    refine h (.ref D) Fc Hc (g1.trans gt) ⟨D, rfl, ?_, fDc, fun z => ?_, acc, hDc, ra⟩
    · cases q : H D with
      | none => rfl
      | some y => exact absurd hD (g1.pers D (by rw [q]; simp))
    · obtain ⟨j, hj, ej⟩ := z
      rcases lock_held ql _ j hj with hj | hj
      · have hl : ρl.length = ρr.length := by rw [okl.len, g.ok.len, L2.wipe_length]
        obtain ⟨y, hy⟩ := hj
        by_cases hv : j ∈ vs
        · rw [backV_in hl hv] at hy
          rcases plainVs_at pl hv with z | ⟨u, z⟩ <;> (rw [z] at hy; rcases hy with w | w | w <;> cases w)
        · rw [backV_out hv] at hy
          exact nh ⟨j, ⟨y, hy⟩, by rw [L2.wipe_out hv]; exact ej⟩
      · exact (g1.ok.hld ⟨j, hj, ej⟩).2 hD
  · have hil' : i < ds.length := Nat.lt_of_not_le hil
    refine .inr ⟨wk.1 i hil', Inv (i + 1), fun H' q => ⟨ds.length - (i + 1), by omega, rfl, q⟩, fun v H' hy => ?_⟩
    have hd : ds[i]? = some ds[i] := List.getElem?_eq_getElem hil'
    obtain ⟨F2, ext, rv⟩ := wk.2.1 i ds[i] v H' hd hy
    rw [List.drop_eq_getElem_cons hil'] at e
    unfold lcGo at e
    have g2 := ext.go g.ok
    cases qt : tgD ctg ds[i] ρc with
    | none => rw [qt] at e; cases e
    | some ρ2 =>
    rw [qt] at e
    dsimp only at e
    refine ⟨F2, ρc, ds[i], ρ2, g2.ok, rv, qt, fun σ' g3 hl ho => ?_⟩
    have hwσ : L2.wipe σ' vs = L2.wipe σ vs := (wipe_ext hl fun j hj => ho j fun z => hj (hsub j z)).trans wid
    refine ⟨hwσ, ?_⟩
    obtain ⟨k, ρ3, qk, e⟩ := R.bind_inv e
    refine ⟨F2, ρ2, g3.ok, ?_⟩
    rw [qk]
    intro b F3 H3 g4 eb
    subst eb
    have gA := (g2.trans g3).trans g4
    cases b with
    | false =>
      simp only [Bool.false_eq_true, if_false] at e ⊢
      obtain ⟨k1, k2, k3⟩ := gA.keep hDc fDc nh
      have gw := Go.wipe (g.trans gA)
      rw [hwσ] at gw
      refine ⟨hil', F3, _, acc, accD, gw, k1, k2, fun z => ?_, ra.mono gA.grow, e⟩
      obtain ⟨j, hj, ej⟩ := z
      obtain ⟨nj, hj⟩ := heldish_wipe hj
      exact k3 ⟨j, hj, by rw [← hwσ, L2.wipe_out nj] at ej; exact ej⟩
    | true =>
      simp only [if_true] at e ⊢
      obtain ⟨y, ρ4, qy, e⟩ := R.bind_inv e
      refine ⟨F3, ρ3, g4.ok, ?_⟩
      rw [qy]
      intro u F4 H4 g5 ru
      obtain ⟨dd, ρ5, qf, e⟩ := R.bind_inv e
      obtain ⟨F5, g6, rd⟩ := Go.frz g5 ru qf
      have gB := gA.trans g6
      obtain ⟨k1, k2, k3⟩ := gB.keep hDc fDc nh
      by_cases hline : accD.length < Line
      case neg => rw [if_neg hline] at e; cases e
      rw [if_pos hline] at e
      refine ⟨acc, k1, by rw [← ra.length]; exact hline, ?_⟩
      have gw := Go.wipe (g.trans gB)
      rw [hwσ] at gw
      have n5 : ¬ Hld (L2.wipe σ vs) (wipeW ρ5 vs) D := fun z => by
        obtain ⟨j, hj, ej⟩ := z
        obtain ⟨nj, hj⟩ := heldish_wipe hj
        exact k3 ⟨j, hj, by rw [← hwσ, L2.wipe_out nj] at ej; exact ej⟩
      exact ⟨hil', F5, _, acc ++ [u], accD ++ [dd], gw.updD hD k2 n5, upd_same, k2, n5, (ra.mono gB.grow).append (.one rd), e⟩
theorem px_lc {elt tg iter : Expr} {ifs : List Expr} {scope : Scope} {own : List (Str × Nat)} {pos : Pos} {celt : E} {ctg : Tg} {cit : Pv.It} {cc : T} {vs : List Nat}
    (hK : X.K = Γ.K) (hc : X.calm = true) (hN : X.N.Nodup) (hi : PI X tg iter (Ti Γ φ W cit)) (ok : BlkOk X.N X.env.scope scope own) (hvs : own.map (·.2) = vs) (hsub : ∀ i ∈ tgSlots ctg, i ∈ vs)
    (hg : ∀ (s : Shared) (H : Hp) (C : Addr) (cl : List (Str × Addr)) (fp : List Addr), PG (X.blk s H scope (compEnvC scope cl C X.env) fp) tg (gT Γ ctg)) (ht : ∀ (s : Shared) (H : Hp) (C : Addr) (cl : List (Str × Addr)) (fp : List Addr), PTs (X.blk s H scope (compEnvC scope cl C X.env) fp) ifs (Tt Γ φ W0 cc))
    (he : ∀ (s : Shared) (H : Hp) (C : Addr) (cl : List (Str × Addr)) (fp : List Addr), PE (X.blk s H scope (compEnvC scope cl C X.env) fp) elt (Tx Γ φ W0 celt)) (hs : ∀ x, foldedSetIterable iter X.env x = pure x) :
    PE X (.ListComp elt [⟨tg, iter, ifs, 0⟩] scope pos) (Tx Γ φ W (.lc celt ctg cit cc vs)) := by
  subst hvs
  exact PE.of (pe_lc hc hN hi ok hg ht he hs) fun σ H Q h => lc_imp hsub h
end
end Pv

/-! Pv13: statements. -/
namespace Pv
open PySem PySem.Spec L2
open PyProof.Rows hiding St
section
variable {K : PySem.W.Frag} {F H F0 H0 F' H' : Hp} {σ σ0 σ' : L2.St} {ρ ρ0 ρ' : Env}
/-! ### a list that may be changed -/
theorem ownL_way {i : Nat} {ds : List D} (h : ownL ρ i = some ds) : ∃ b : Bool, ρ[i]? = some (if b then .own (.lst ds) else .bor (.lst ds)) ∧ ∀ es, putL ρ i es = ρ.set i (if b then .own (.lst es) else .bor (.lst es)) := by
  unfold ownL at h
  split at h
  · rename_i xs q
    cases h
    exact ⟨true, q, fun es => by unfold putL; rw [q]; rfl⟩
  · rename_i xs q
    cases h
    exact ⟨false, q, fun es => by unfold putL; rw [q]; rfl⟩
  · cases h
theorem own_at {i : Nat} {ds : List D} (ok : Ok K F H σ ρ) (h : ownL ρ i = some ds) : ∃ a xs, σ[i]? = some (some (.ref a)) ∧ F a = none ∧ H a = some (.lst xs) ∧ Reps K F ds xs := by
  obtain ⟨b, q, _⟩ := ownL_way h
  obtain ⟨a, e, f, xs, eo, r⟩ := ok.obj i (.lst ds) (by cases b; exact .inr (.inl q); exact .inl q)
  exact ⟨a, xs, e, f, eo, r⟩
theorem cont_ok {i : Nat} {a : Addr} {b : Bool} {d d' : D} {ys : List V} (ok : Ok K F H σ ρ) (q : ρ[i]? = some (if b then .own d else .bor d)) (e : σ[i]? = some (some (.ref a))) (r : ContO K F a d' (some (.lst ys))) :
    Go K F H σ ρ F (upd H a (.lst ys)) σ (ρ.set i (if b then .own d' else .bor d')) := by
  have q1 : ρ[i]? = some (.own d) ∨ ρ[i]? = some (.bor d) := by cases b; exact .inr q; exact .inl q
  obtain ⟨a', e', fa, ca⟩ := ok.obj i d (by rcases q1 with z | z; exact .inl z; exact .inr (.inl z))
  rw [e] at e'
  cases e'
  have hi : i < ρ.length := (List.getElem?_eq_some_iff.mp q).1
  have held0 : Heldish ρ i := ⟨d, by rcases q1 with z | z; exact .inl z; exact .inr (.inl z)⟩
  have own0 : Ownish ρ i := ⟨d, q1⟩
  have at_ : ∀ j, (ρ.set i (if b then Pv.W.own d' else .bor d'))[j]? = if j = i then some (if b then Pv.W.own d' else .bor d') else ρ[j]? := fun j => set_at (w' := .un) hi
  generalize hρ : ρ.set i (if b then Pv.W.own d' else .bor d') = ρ2 at at_ ⊢
  have len2 : ρ2.length = ρ.length := by rw [← hρ, List.length_set]
  have heldj : ∀ j, Heldish ρ2 j → Heldish ρ j := fun j ⟨x, hx⟩ => by
    by_cases hj : j = i
    · subst hj; exact held0
    · rw [at_, if_neg hj] at hx; exact ⟨x, hx⟩
  have ownj : ∀ j, Ownish ρ2 j → Ownish ρ j := fun j ⟨x, hx⟩ => by
    by_cases hj : j = i
    · subst hj; exact own0
    · rw [at_, if_neg hj] at hx; exact ⟨x, hx⟩
  refine ⟨⟨fun c o hc => ?_, by rw [len2]; exact ok.len, fun j x hx => ?_, fun j x hx => ?_, fun j k c hj hk => ok.inj j k c (heldj j hj) (heldj k hk)⟩, Same.refl _, fun c h1 h2 => absurd h2 h1, fun c o h1 h2 => ?_, fun c hc => ?_, fun c ⟨j, hj, ej⟩ => .inl ⟨j, ownj j hj, ej⟩, fun j x hx => ?_, fun j x hx => ?_, fun j x hx => ?_, fun j ⟨w, hw, nw⟩ => ?_⟩
  · have : c ≠ a := fun z => by subst z; rw [fa] at hc; cases hc
    rw [upd_ne this]; exact ok.le c o hc
  · rw [at_] at hx
    by_cases hj : j = i
    · rw [if_pos hj] at hx; cases b <;> cases hx
    · rw [if_neg hj] at hx; exact ok.dat j x hx
  · rw [at_] at hx
    by_cases hj : j = i
    · rw [if_pos hj] at hx
      subst hj
      have ex : x = d' := by
        cases b
        · rcases hx with z | z | z <;> first | (cases z; rfl) | cases z
        · rcases hx with z | z | z <;> first | (cases z; rfl) | cases z
      subst ex
      exact ⟨a, e, fa, by rw [upd_same]; exact r⟩
    · rw [if_neg hj] at hx
      obtain ⟨c, ec, fc, cc⟩ := ok.obj j x hx
      have : c ≠ a := fun z => by subst z; exact hj (ok.inj j i c ⟨x, hx⟩ held0 ec e)
      exact ⟨c, ec, fc, by rw [upd_ne this]; exact cc⟩
  · have : c ≠ a := fun z => by subst z; exact h2 ⟨i, own0, e⟩
    rw [upd_ne this]; exact h1
  · by_cases z : c = a
    · subst z; rw [upd_same]; simp
    · rw [upd_ne z]; exact hc
  · have hj : j ≠ i := fun z => by subst z; rw [q] at hx; cases b <;> cases hx
    exact ⟨by rw [at_, if_neg hj]; exact hx, rfl⟩
  · rw [at_] at hx
    by_cases hj : j = i
    · rw [if_pos hj] at hx; cases b <;> cases hx
    · rw [if_neg hj] at hx; exact ⟨hx, rfl⟩
  · by_cases hj : j = i
    · subst hj
      rw [q] at hx
      cases b with
      | false => exact ⟨d', by rw [at_, if_pos rfl]; rfl, rfl⟩
      | true => cases hx
    · exact ⟨x, by rw [at_, if_neg hj]; exact hx, rfl⟩
  · by_cases hj : j = i
    · exact ⟨_, by rw [at_, if_pos hj], by cases b <;> simp⟩
    · exact ⟨w, by rw [at_, if_neg hj]; exact hw, nw⟩
theorem put_ok {i : Nat} {a : Addr} {ds es : List D} {ys : List V} (ok : Ok K F H σ ρ) (h : ownL ρ i = some ds) (e : σ[i]? = some (some (.ref a))) (r : Reps K F es ys) :
    Go K F H σ ρ F (upd H a (.lst ys)) σ (putL ρ i es) := by
  obtain ⟨b, q, hp⟩ := ownL_way h
  rw [hp]
  exact cont_ok ok q e ⟨ys, rfl, r⟩
theorem unlock_held {x : A} {ρl : Env} {un : Env → Env} (h : lockW ρ x = some (ρl, un)) (g : Go K F H σ ρl F' H' σ' ρ') (j : Nat) (hj : Heldish (un ρ') j) : Heldish ρ' j := by
  have key : ∀ (i : Nat) (d : D) (w : Pv.W), ρl[i]? = some (.lck d) → Heldish (ρ'.set i w) j → Heldish ρ' j := fun i d w hi h => by
    by_cases e : j = i
    · subst e; exact ⟨d, .inr (.inr (g.lckF j d hi).1)⟩
    · obtain ⟨y, hy⟩ := h
      rw [List.getElem?_set_ne (Ne.symm e)] at hy
      exact ⟨y, hy⟩
  cases x with
  | pl i =>
    have h' : (match ρ[i]? with
      | some (.own d) => some (ρ.set i (.lck d), fun ρ => ρ.set i (.own d))
      | some (.bor d) => some (ρ.set i (.lck d), fun ρ => ρ.set i (.bor d))
      | some (.lck _) => some (ρ, id)
      | some (.dat _) => some (ρ, id)
      | _ => none) = some (ρl, un) := h
    split at h'
    · rename_i d q
      cases h'
      exact key i d _ (by rw [List.getElem?_set_self (List.getElem?_eq_some_iff.mp q).1]) hj
    · rename_i d q
      cases h'
      exact key i d _ (by rw [List.getElem?_set_self (List.getElem?_eq_some_iff.mp q).1]) hj
    · cases h'; exact hj
    · cases h'; exact hj
    · cases h'
  | d x => cases h; exact hj
  | fr x => cases h; exact hj
  | ft x y => cases h; exact hj
theorem unlock_live {x : A} {ρl : Env} {un : Env → Env} (h : lockW ρ x = some (ρl, un)) (ρ' : Env) (j : Nat) (hj : Live ρ' j) : Live (un ρ') j := by
  have key : ∀ (i : Nat) (w : Pv.W), w ≠ .un → Live (ρ'.set i w) j := fun i w nw => by
    obtain ⟨y, hy, ny⟩ := hj
    by_cases e : j = i
    · subst e; exact ⟨w, List.getElem?_set_self (List.getElem?_eq_some_iff.mp hy).1, nw⟩
    · exact ⟨y, by rw [List.getElem?_set_ne (Ne.symm e)]; exact hy, ny⟩
  cases x with
  | pl i =>
    have h' : (match ρ[i]? with
      | some (.own d) => some (ρ.set i (.lck d), fun ρ => ρ.set i (.own d))
      | some (.bor d) => some (ρ.set i (.lck d), fun ρ => ρ.set i (.bor d))
      | some (.lck _) => some (ρ, id)
      | some (.dat _) => some (ρ, id)
      | _ => none) = some (ρl, un) := h
    split at h'
    · cases h'; exact key i _ (by simp)
    · cases h'; exact key i _ (by simp)
    · cases h'; exact hj
    · cases h'; exact hj
    · cases h'
  | d x => cases h; exact hj
  | fr x => cases h; exact hj
  | ft x y => cases h; exact hj
end

/-! ### what a statement's code tells -/
def PostS (Γ : Gm) (F H : Hp) (σ : L2.St) (ρ : Env) (W : WX) : FR → Ends → Prop
  | .next ρ', D => ∀ (σ' : L2.St) (F' H' : Hp), Go Γ.K F H σ ρ F' H' σ' ρ' → D.nx σ' H'
  | .brk ρ', D => ∀ (σ' : L2.St) (F' H' : Hp), Go Γ.K F H σ ρ F' H' σ' ρ' → D.bk σ' H'
  | .cont ρ', D => ∀ (σ' : L2.St) (F' H' : Hp), Go Γ.K F H σ ρ F' H' σ' ρ' → D.ct σ' H'
  | .ret a ρ', D => ∀ (σ' : L2.St) (F' H' : Hp) (v : V), Go Γ.K F H σ ρ F' H' σ' ρ' → RepA Γ.K H F' H' σ' ρ' a v → D.rt v H'
  | .exc x ρ', D => ∀ (σ' : L2.St) (F' H' : Hp) (C : Value) (d : Option Addr), Go Γ.K F H σ ρ F' H' σ' ρ' → XRep Γ F' H' x C d → W C d σ' H'
  | .stuck, _ => False
  | .any f, D => ∀ b, PostS Γ F H σ ρ W (f b) D
def tS (Γ : Gm) (φ : Phi) (W : WX) (c : S) : TS := fun D σ H => ∃ F ρ, Ok Γ.K F H σ ρ ∧ PostS Γ F H σ ρ W (run φ c ρ) D
def tSs (Γ : Gm) (φ : Phi) (W : WX) (c : Ss) : TS := fun D σ H => ∃ F ρ, Ok Γ.K F H σ ρ ∧ PostS Γ F H σ ρ W (runs φ c ρ) D
section
variable {Γ : Gm} {F H F1 H1 : Hp} {σ σ1 : L2.St} {ρ ρ1 : Env} {W : WX} {D D' : Ends}
theorem RepA.back2 {F' H' : Hp} {σ' : L2.St} {ρ' : Env} {a : A} {v : V} (g : Go Γ.K F H σ ρ F1 H1 σ1 ρ1) (r : RepA Γ.K H1 F' H' σ' ρ' a v) : RepA Γ.K H F' H' σ' ρ' a v := by
  cases a with
  | d x => exact r
  | fr x =>
    obtain ⟨a, e, h0, q⟩ := r
    refine ⟨a, e, ?_, q⟩
    cases z : H a with
    | none => rfl
    | some o => exact absurd h0 (g.pers a (by rw [z]; simp))
  | pl i => exact r
  | ft ds s =>
    have old : ∀ {b : Addr}, H1 b = none → H b = none := fun {b} h0 => by
      cases z : H b with
      | none => rfl
      | some o => exact absurd h0 (g.pers b (by rw [z]; simp))
    obtain ⟨a, b, ys, u, e, h0, q1, q2, q3, q4, h0b, q⟩ := r
    exact ⟨a, b, ys, u, e, old h0, q1, q2, q3, q4, old h0b, q⟩
theorem PostS.from {r : FR} (h : PostS Γ F H σ ρ W r D) (g : Go Γ.K F H σ ρ F1 H1 σ1 ρ1) : PostS Γ F1 H1 σ1 ρ1 W r D := by
  induction r with
  | any f ih => exact fun b => ih b (h b)
  | next ρ' => exact fun σ' F' H' g' => h σ' F' H' (g.trans g')
  | brk ρ' => exact fun σ' F' H' g' => h σ' F' H' (g.trans g')
  | cont ρ' => exact fun σ' F' H' g' => h σ' F' H' (g.trans g')
  | ret a ρ' => exact fun σ' F' H' v g' r => h σ' F' H' v (g.trans g') (RepA.back2 g r)
  | exc x ρ' => exact fun σ' F' H' C d g' r => h σ' F' H' C d (g.trans g') r
  | stuck => exact h
theorem PostS.seq_ {r : FR} {f : Env → FR} (h : PostS Γ F H σ ρ W (r.seq f) D) : PostS Γ F H σ ρ W r { D with nx := fun σ' H' => ∃ F' ρ', Ok Γ.K F' H' σ' ρ' ∧ PostS Γ F' H' σ' ρ' W (f ρ') D } := by
  induction r with
  | any g ih => exact fun b => ih b (h b)
  | next ρ' => exact fun σ' F' H' g => ⟨F', ρ', g.ok, PostS.from h g⟩
  | brk ρ' => exact h
  | cont ρ' => exact h
  | ret a ρ' => exact h
  | exc x ρ' => exact h
  | stuck => exact h
theorem PostS.bnd {α β : Type} {r : R α} {f : α → Env → FR} {rep : Hp → Hp → Env → α → β → Prop} {Q : β → Hp → Prop} (h : PostS Γ F H σ ρ W (FR.of r f) D)
    (k : ∀ (a : α) (ρ' : Env), PostS Γ F H σ ρ W (f a ρ') D → ∀ (b : β) (F' H' : Hp), Go Γ.K F H σ ρ F' H' σ ρ' → rep F' H' ρ' a b → Q b H') : Post Γ F H σ ρ W r rep Q := by
  cases r with
  | ok a ρ' => exact k a ρ' h
  | exc x ρ' => exact fun F' H' C d g rx => h σ F' H' C d g rx
  | stuck => exact h
end
theorem PS.of {X : Cx} {s : Stmt} {t t' : TS} (h : PS X s t) (i : ∀ D σ H, t' D σ H → t D σ H) : PS X s t' := ⟨fun pins s σ H D I q => h.run pins s σ H D I (i D σ H q)⟩
theorem PSs.of {X : Cx} {s : List Stmt} {t t' : TS} (h : PSs X s t) (i : ∀ D σ H, t' D σ H → t D σ H) : PSs X s t' := ⟨fun pins s σ H D I q => h.run pins s σ H D I (i D σ H q)⟩
section
variable {X : Cx} {Γ : Gm} {φ : Phi} {W : WX} {e a b c : Expr} {ce ca cb : E} {st : Stmt} {rest : List Stmt} {cs : S} {css cs1 cs2 : Ss} {pos : Pos}
theorem ss_nil : PSs X [] (tSs Γ φ W .nil) := PSs.of pss_nil fun D σ H ⟨F, ρ, ok, h⟩ => by
  rw [runs] at h
  exact h σ F H (Go.refl ok)
theorem ss_cons (h1 : PS X st (tS Γ φ W cs)) (h2 : PSs X rest (tSs Γ φ W css)) : PSs X (st :: rest) (tSs Γ φ W (.cons cs css)) := by
  refine PSs.of (pss_cons h1 h2) fun D σ H ⟨F, ρ, ok, h⟩ => ⟨F, ρ, ok, ?_⟩
  rw [runs] at h
  exact PostS.seq_ h
theorem s_ret (he : PE X e (Tx Γ φ W ce)) : PS X (.Return (some e) pos) (tS Γ φ W (.ret ce)) := by
  refine PS.of (ps_ret he) fun D σ H ⟨F, ρ, ok, h⟩ => ⟨F, ρ, ok, ?_⟩
  rw [run] at h
  exact PostS.bnd h fun a ρ' h v F' H' g r => h σ F' H' v g r
theorem s_retN : PS X (.Return none pos) (tS Γ φ W .retN) := by
  refine PS.of ps_retN fun D σ H ⟨F, ρ, ok, h⟩ => ?_
  rw [run] at h
  exact h σ F H .non (Go.refl ok) (by show Rep _ _ _ _; rw [Rep])
theorem s_pass : PS X (.Pass pos) (tS Γ φ W .pass) := PS.of ps_pass fun D σ H ⟨F, ρ, ok, h⟩ => by
  rw [run] at h
  exact h σ F H (Go.refl ok)
theorem s_brk : PS X (.Break pos) (tS Γ φ W .brk) := PS.of ps_break fun D σ H ⟨F, ρ, ok, h⟩ => by
  rw [run] at h
  exact h σ F H (Go.refl ok)
theorem s_cont : PS X (.Continue pos) (tS Γ φ W .cont) := PS.of ps_continue fun D σ H ⟨F, ρ, ok, h⟩ => by
  rw [run] at h
  exact h σ F H (Go.refl ok)
theorem s_doc {x j pos'} : PS X (.Expr (.Constant (.str x) j pos) pos') (tS Γ φ W .pass) := PS.of ps_doc fun D σ H ⟨F, ρ, ok, h⟩ => by
  rw [run] at h
  exact h σ F H (Go.refl ok)
theorem s_expr (he : PE X e (Tx Γ φ W ce)) (hs : swapsWith e none pos.line X.env = pure false) : PS X (.Expr e pos) (tS Γ φ W (.expr ce)) := by
  refine PS.of (ps_expr he hs) fun D σ H ⟨F, ρ, ok, h⟩ => ⟨F, ρ, ok, ?_⟩
  rw [run] at h
  exact PostS.bnd h fun a ρ' h v F' H' g r => h σ F' H' g
theorem s_if {ct : T} {p q : List Stmt} (hc : PT X c (Tt Γ φ W ct)) (ha : PSs X p (tSs Γ φ W cs1)) (hb : PSs X q (tSs Γ φ W cs2)) : PS X (.If c p q pos) (tS Γ φ W (.iff ct cs1 cs2)) := by
  refine PS.of (ps_if hc ha hb) fun D σ H ⟨F, ρ, ok, h⟩ => ⟨F, ρ, ok, ?_⟩
  rw [run] at h
  refine PostS.bnd h fun k ρ' h b F' H' g r => ?_
  subst r
  cases b with
  | true => exact ⟨F', ρ', g.ok, PostS.from h g⟩
  | false => exact ⟨F', ρ', g.ok, PostS.from h g⟩
/-! ### names stored -/
theorem asg_ok {K : PySem.W.Frag} {F H F1 H1 : Hp} {σ : L2.St} {ρ ρ1 ρ2 : Env} {i : Nat} {al : A} {v : V} (g : Go K F H σ ρ F1 H1 σ ρ1) (r : RepA K H F1 H1 σ ρ1 al v) (h : asgA ρ1 i al = .ok () ρ2) :
    ∃ F2, Go K F H σ ρ F2 H1 (σ.set i (some v)) ρ2 := by
  cases al with
  | d x =>
    obtain ⟨ρ3, ρ4, h3, h4⟩ := R.bind_inv h
    obtain ⟨h5, rfl⟩ := R.of_ok h3
    cases h4
    exact ⟨F1, set_dat g r h5⟩
  | fr x =>
    obtain ⟨ρ3, ρ4, h3, h4⟩ := R.bind_inv h
    obtain ⟨h5, rfl⟩ := R.of_ok h3
    cases h4
    exact ⟨F1, set_own g r h5⟩
  | pl j =>
    obtain ⟨x, ρ0, h0, h⟩ := R.bind_inv h
    obtain ⟨F2, g2, r2⟩ := Go.frz g r h0
    obtain ⟨ρ3, ρ4, h3, h4⟩ := R.bind_inv h
    obtain ⟨h5, rfl⟩ := R.of_ok h3
    cases h4
    exact ⟨F2, set_dat g2 r2 h5⟩
  | ft x y => cases h
theorem asg_exc {ρ1 ρ2 : Env} {i : Nat} {al : A} {x : Ex} (h : asgA ρ1 i al = .exc x ρ2) : False := by
  have key : ∀ (o : Option Env) (ρ : Env), (R.of o ρ |>.bind fun ρ _ => R.ok () ρ) = R.exc x ρ2 → False := fun o ρ h => by
    cases o <;> cases h
  cases al with
  | d x => exact key _ _ h
  | fr x => exact key _ _ h
  | pl j =>
    have h' : ((A.frz (.pl j) ρ1).bind fun x ρ => R.of (setW ρ i (.dat x)) ρ |>.bind fun ρ _ => .ok () ρ) = .exc x ρ2 := h
    cases q : A.frz (.pl j) ρ1 with
    | ok y ρ3 => rw [q] at h'; exact key _ _ h'
    | exc y ρ3 => exact frz_exc q
    | stuck => rw [q] at h'; cases h'
  | ft x y => cases h
theorem asg_imp {i : Nat} {D : Ends} {σ : L2.St} {H : Hp} (h : tS Γ φ W (.asg (.name i) ce) D σ H) : tAsg (Tx Γ φ W ce) (gName i) D σ H := by
  obtain ⟨F, ρ, ok, h⟩ := h
  refine ⟨F, ρ, ok, ?_⟩
  rw [run] at h
  refine PostS.bnd h fun a ρ' h v F' H' g r => ?_
  cases q : asgA ρ' i a with
  | ok u ρ2 =>
    rw [q] at h
    obtain ⟨F2, g2⟩ := asg_ok g r q
    exact h _ F2 H' g2
  | exc x ρ2 => exact (asg_exc q).elim
  | stuck => rw [q] at h; exact h.elim
theorem s_asg {i : Nat} {x : Str} {pos' : Pos} (hN : X.N.Nodup) (hi : X.N[i]? = some x) (hx : Loc X.env.scope x) (he : PE X e (Tx Γ φ W ce)) (hs : swapsWith e (some (.Name x pos')) pos.line X.env = pure false) (hf : X.fn x = true ∨ X.env.scope.names.lookup x = some .local) :
    PS X (.Assign [.Name x pos'] e pos) (tS Γ φ W (.asg (.name i) ce)) := PS.of (ps_set hN hi hx he hs hf) fun D σ H h => asg_imp h
theorem s_asgT {ts : Tgs} {tg : Expr} (he : PE X e (Tx Γ φ W ce)) (hg : PG X tg (gT Γ (.tup ts))) (hs : swapsWithSole [tg] e pos.line X.env = pure false) (hw : swappedStores [tg] e X.env = pure none) (h1 : (assignEach [tg] X.env).map (·.2) = [assign tg X.env]) :
    PS X (.Assign [tg] e pos) (tS Γ φ W (.asg (.tup ts) ce)) := by
  refine PS.of (ps_asg he hg hs hw h1) fun D σ H ⟨F, ρ, ok, h⟩ => ⟨F, ρ, ok, ?_⟩
  rw [run] at h
  refine PostS.bnd h fun a ρ' h v F' H' g r => ?_
  cases a with
  | d x =>
    dsimp only at h
    cases q : tgD (.tup ts) x ρ' with
    | none => rw [q] at h; exact h.elim
    | some ρ2 =>
      rw [q] at h
      exact ⟨F', ρ', x, ρ2, g.ok, r, q, fun σ' g' _ _ => h σ' F' H' (g.trans g')⟩
  | fr x => exact h.elim
  | pl x => exact h.elim
  | ft x y => exact h.elim
theorem s_asgLc {i : Nat} {y : Str} {py : Pos} {elt tg iter : Expr} {ifs : List Expr} {scope : Scope} {own : List (Str × Nat)} {lpos : Pos} {celt : E} {ctg : Tg} {cit : Pv.It} {cc : T} {vs : List Nat}
    (hc : X.calm = true) (hN : X.N.Nodup) (hy : X.N[i]? = some y) (hyl : X.env.scope.names.lookup y = some .local) (hsw : swapsWith (.ListComp elt [⟨tg, iter, ifs, 0⟩] scope lpos) (some (.Name y py)) pos.line X.env = pure true)
    (hi : PI X tg iter (Ti Γ φ W cit)) (ok : BlkOk X.N X.env.scope scope own) (hvs : own.map (·.2) = vs) (hsub : ∀ i ∈ tgSlots ctg, i ∈ vs)
    (hg : ∀ (s : Shared) (H : Hp) (C : Addr) (cl : List (Str × Addr)) (fp : List Addr), PG (X.blk s H scope (compEnvC scope cl C X.env) fp) tg (gT Γ ctg)) (ht : ∀ (s : Shared) (H : Hp) (C : Addr) (cl : List (Str × Addr)) (fp : List Addr), PTs (X.blk s H scope (compEnvC scope cl C X.env) fp) ifs (Tt Γ φ W0 cc))
    (he : ∀ (s : Shared) (H : Hp) (C : Addr) (cl : List (Str × Addr)) (fp : List Addr), PE (X.blk s H scope (compEnvC scope cl C X.env) fp) elt (Tx Γ φ W0 celt)) (hs : ∀ x, foldedSetIterable iter X.env x = pure x) :
    PS X (.Assign [.Name y py] (.ListComp elt [⟨tg, iter, ifs, 0⟩] scope lpos) pos) (tS Γ φ W (.asg (.name i) (.lc celt ctg cit cc vs))) := by
  subst hvs
  exact PS.of (ps_setLc hc hN hy hyl hsw hi ok hg ht he hs) fun D σ H h => lc_imp hsub (asg_imp h)
theorem s_par {i j : Nat} {x y : Str} {px py pt : Pos} {kt k2 pt2} (hc : X.calm = true) (hN : X.N.Nodup) (hi : X.N[i]? = some x) (hj : X.N[j]? = some y) (hij : i ≠ j)
    (hx : X.env.scope.names.lookup x = some .local) (hy : X.env.scope.names.lookup y = some .local) (ha : PA X [a, b] (Ts Γ φ W (.cons false ca (.cons false cb .nil))))
    (hw : swappedStores [.Tuple [.Name x px, .Name y py] kt pt] (.Tuple [a, b] k2 pt2) X.env = pure (some [x, y]))
    (hs : swapsWithSole [.Tuple [.Name x px, .Name y py] kt pt] (.Tuple [a, b] k2 pt2) pos.line X.env = pure false) :
    PS X (.Assign [.Tuple [.Name x px, .Name y py] kt pt] (.Tuple [a, b] k2 pt2) pos) (tS Γ φ W (.par i j ca cb)) := by
  refine PS.of (ps_par hc hN hi hj hij hx hy ha hw hs) fun D σ H ⟨F, ρ, ok, h⟩ => ⟨F, ρ, ok, ?_⟩
  rw [run] at h
  rw [evs]
  cases q1 : ev φ ca ρ with
  | stuck => rw [q1] at h; exact h.elim
  | exc u ρ1 => rw [q1] at h; exact fun F' H' C d g rx => h σ F' H' C d g rx
  | ok u ρ1 =>
  rw [q1] at h
  simp only [FR.of_ok, R.bind_ok] at h ⊢
  cases q2 : A.frz u ρ1 with
  | stuck => rw [q2] at h; exact h.elim
  | exc u ρ1 => exact (frz_exc q2).elim
  | ok u2 ρ2 =>
  rw [q2] at h
  simp only [FR.of_ok, R.bind_ok] at h ⊢
  rw [evs]
  cases q3 : ev φ cb ρ2 with
  | stuck => rw [q3] at h; exact h.elim
  | exc u ρ1 => rw [q3] at h; exact fun F' H' C d g rx => h σ F' H' C d g rx
  | ok w ρ3 =>
  rw [q3] at h
  simp only [FR.of_ok, R.bind_ok] at h ⊢
  cases q4 : A.frz w ρ3 with
  | stuck => rw [q4] at h; exact h.elim
  | exc u ρ1 => exact (frz_exc q4).elim
  | ok w2 ρ4 =>
  rw [q4] at h
  simp only [FR.of_ok, R.bind_ok] at h ⊢
  rw [evs]
  simp only [R.bind_ok]
  intro xs F' H' g r
  rw [Reps] at r
  obtain ⟨v1, r1, rfl, ru, r⟩ := r
  rw [Reps] at r
  obtain ⟨v2, r2, rfl, rw', r⟩ := r
  rw [Reps] at r
  subst r
  refine ⟨v1, v2, rfl, ?_⟩
  cases q5 : setW ρ4 i (.dat u2) with
  | none => rw [q5] at h; exact h.elim
  | some ρ5 =>
  rw [q5] at h
  simp only [Option.bind_some] at h
  cases q6 : setW ρ5 j (.dat w2) with
  | none => rw [q6] at h; exact h.elim
  | some ρ6 =>
  rw [q6] at h
  have g5 := set_dat g ru q5
  exact h _ F' H' (set_dat g5 rw' q6)
end
end Pv

/-! Pv14: op=, append, stores into lists, loops. -/
namespace Pv
open PySem PySem.Spec L2
open PyProof.Rows hiding St
theorem augD_int {op : Operator} {x y z : D} (h : augD op x y = some z) : ∃ i j k, x = .int i ∧ y = .int j ∧ z = .int k ∧ ((op = .Add ∧ k = i + j) ∨ (op = .Sub ∧ k = i - j) ∨ (op = .Mult ∧ CMul i j ∧ k = i * j) ∨ (op = .FloorDiv ∧ CDiv i j ∧ k = i / j) ∨ (op = .Mod ∧ 0 < j ∧ k = i % j)) := by
  unfold augD at h
  split at h
  · rename_i i j
    split at h
    · cases h; exact ⟨i, j, _, rfl, rfl, rfl, .inl ⟨rfl, rfl⟩⟩
    · cases h; exact ⟨i, j, _, rfl, rfl, rfl, .inr (.inl ⟨rfl, rfl⟩)⟩
    · split at h
      · rename_i c; cases h; exact ⟨i, j, _, rfl, rfl, rfl, .inr (.inr (.inl ⟨rfl, c, rfl⟩))⟩
      · cases h
    · split at h
      · rename_i c; cases h; exact ⟨i, j, _, rfl, rfl, rfl, .inr (.inr (.inr (.inl ⟨rfl, c, rfl⟩)))⟩
      · cases h
    · split at h
      · rename_i c; cases h; exact ⟨i, j, _, rfl, rfl, rfl, .inr (.inr (.inr (.inr ⟨rfl, c, rfl⟩)))⟩
      · cases h
    · cases h
  · cases h
def ipD (op : Operator) : TIp := fun x y H Q => ∃ i j k, x = .int i ∧ y = .int j ∧ augD op (.int i) (.int j) = some (.int k) ∧ Q (.int k) H
theorem ip_D {X : Cx} (op : Operator) : PIp X op (ipD op) := by
  intro pins s σ H x y v u Q I rx ry h
  obtain ⟨i, j, k, rfl, rfl, e, q⟩ := h
  obtain ⟨i', j', k', e1, e2, e3, h⟩ := augD_int e
  cases e1; cases e2; cases e3
  rcases h with ⟨rfl, rfl⟩ | ⟨rfl, rfl⟩ | ⟨rfl, c, rfl⟩ | ⟨rfl, c, rfl⟩ | ⟨rfl, c, rfl⟩
  · exact iop_add pins s σ H _ _ v u Q I rx ry ⟨i, j, rfl, rfl, q⟩
  · exact iop_sub pins s σ H _ _ v u Q I rx ry ⟨i, j, rfl, rfl, q⟩
  · exact iop_mul pins s σ H _ _ v u Q I rx ry ⟨i, j, rfl, rfl, c, q⟩
  · exact iop_fdiv pins s σ H _ _ v u Q I rx ry ⟨i, j, rfl, rfl, c, q⟩
  · exact iop_mod pins s σ H _ _ v u Q I rx ry ⟨i, j, rfl, rfl, c, q⟩
theorem RdD.int_ {K : PySem.W.Frag} {F H : Hp} {j : Int} {v : V} (r : RdD K F H (.int j) v) : v = .int j := by
  rcases r with r | ⟨a, e, c⟩
  · rw [Rep] at r; exact r
  · exact c.elim
section
variable {X : Cx} {Γ : Gm} {φ : Phi} {W : WX} {e a b c k : Expr} {ce ca cb ck : E} {st : Stmt} {rest : List Stmt} {cs : S} {css cs1 cs2 : Ss} {pos : Pos}
theorem s_aug {i : Nat} {x : Str} {op : Operator} {pos' : Pos} (hN : X.N.Nodup) (hi : X.N[i]? = some x) (hx : Loc X.env.scope x) (he : PE X e (Tx Γ φ W ce)) (hf : X.fn x = true ∨ X.env.scope.names.lookup x = some .local) :
    PS X (.AugAssign (.Name x pos') op e pos) (tS Γ φ W (.aug i op ce)) := by
  refine PS.of (ps_aug hN hi hx he (ip_D op) hf) fun D σ H ⟨F, ρ, ok, h⟩ => ?_
  rw [run] at h
  cases q : ρ[i]? with
  | none => simp only [q] at h; exact h.elim
  | some w =>
  cases w with
  | dat x =>
    simp only [q] at h
    obtain ⟨v, ev1, rv⟩ := ok.dat i x q
    refine ⟨v, ev1, F, ρ, ok, ?_⟩
    refine PostS.bnd h fun y ρ1 h u F1 H1 g1 r1 => ?_
    cases q1 : (y.get ρ1).bind fun dy => augD op x dy with
    | none => rw [q1] at h; exact h.elim
    | some z =>
    rw [q1] at h
    simp only [Option.bind_some] at h
    obtain ⟨dy, e1, e2⟩ := Option.bind_eq_some_iff.mp q1
    obtain ⟨m, j, l, rfl, rfl, rfl, _⟩ := augD_int e2
    rw [Rep] at rv
    subst rv
    obtain rfl := (RepA.rd g1.ok r1 e1).int_
    refine ⟨m, j, l, rfl, rfl, e2, ?_⟩
    cases q2 : setW ρ1 i (.dat (.int l)) with
    | none => rw [q2] at h; exact h.elim
    | some ρ2 =>
      rw [q2] at h
      exact h _ F1 H1 (set_dat g1 (by rw [Rep]) q2)
  | _ => simp only [q] at h; exact h.elim
theorem ev_own {i : Nat} {ρ : Env} {ds : List D} (h : ownL ρ i = some ds) : ev φ (.var i) ρ = .ok (.pl i) ρ := by
  obtain ⟨b, q, _⟩ := ownL_way h
  rw [ev]
  cases b <;> (simp only [q]; rfl)
theorem s_app {i : Nat} {x : Str} {p apos cpos : Pos} (hK : X.K = Γ.K) (ho : PE X (.Name x p) (Tx Γ φ W (.var i))) (he : PE X e (Tx Γ φ W ce)) (hbase : attributeBase (.Name x p) "append" X.env (eval (.Name x p) X.env) = eval (.Name x p) X.env)
    (hline : (apos.endLine == cpos.line) = true) (hs : starEach [e] X.env = (false, eval e X.env) :: starEach [] X.env) (hw : swapsWith (.Call (.Attribute (.Name x p) "append" apos) [e] [] cpos) none pos.line X.env = pure false) :
    PS X (.Expr (.Call (.Attribute (.Name x p) "append" apos) [e] [] cpos) pos) (tS Γ φ W (.app i ce)) := by
  refine PS.of (ps_expr (pe_bm F.plainAttrs_list F.slot_list_append PySem.F.type_list_append mt_append ho (pa_cons he pa_nil hs) hbase (by rw [hs]; rfl) hline hs rfl) hw) fun D σ H ⟨F, ρ, ok, h⟩ => ?_
  rw [run] at h
  cases q : ownL ρ i with
  | none => simp only [q] at h; exact h.elim
  | some ds =>
  simp only [q] at h
  refine ⟨F, ρ, ok, ?_⟩
  rw [ev_own q]
  intro v F1 H1 g1 r1
  obtain ⟨a, xs, e1, fa, ha, ra⟩ := own_at g1.ok q
  obtain ⟨e2, _⟩ := r1
  rw [e1] at e2
  cases e2
  refine ⟨.inl ⟨rfl, xs, .inl (.inl ha)⟩, F1, ρ, g1.ok, ?_⟩
  refine PostS.bnd (PostS.from h g1) fun y ρ1 h u F2 H2 g2 r2 => ?_
  cases q2 : A.frz y ρ1 with
  | stuck => rw [q2] at h; exact h.elim
  | exc u ρ1 => exact (frz_exc q2).elim
  | ok d ρ2 =>
  rw [q2] at h
  simp only [FR.of_ok] at h
  obtain ⟨F3, g3, rd⟩ := Go.frz g2 r2 q2
  cases q3 : ownL ρ2 i with
  | none => rw [q3] at h; exact h.elim
  | some es =>
  rw [q3] at h
  dsimp only at h
  obtain ⟨a', ys, e3, fa', ha', ra'⟩ := own_at g3.ok q3
  rw [e1] at e3
  cases e3
  by_cases hz : es.length < Line
  case neg => rw [if_neg hz] at h; exact h.elim
  rw [if_pos hz] at h
  have hl : (sizeLine : Nat) = 16777216 := sizeLine_eq
  refine ⟨a, ys, u, rfl, rfl, ha', by rw [← ra'.length, hl]; exact hz, ?_⟩
  exact h σ F3 _ (g3.trans (put_ok g3.ok q3 e1 (ra'.append (.one rd))))
theorem s_seti {i : Nat} {x : Str} {p tpos : Pos} (hK : X.K = Γ.K) (ho : PE X (.Name x p) (Tx Γ φ W (.var i))) (hk : PE X k (Tx Γ φ W ck)) (he : PE X e (Tx Γ φ W ce))
    (hsub : ∀ v, assign (.Subscript (.Name x p) k tpos) X.env v = (do
      let ov ← holding [v] (eval (.Name x p) X.env)
      let iv ← holding [v, ov] (eval k X.env)
      standAt tpos
      holding [v, ov, iv] (setItem ov iv v)
      release [v, ov, iv] []))
    (hs : swapsWithSole [.Subscript (.Name x p) k tpos] e pos.line X.env = pure false) (hw : swappedStores [.Subscript (.Name x p) k tpos] e X.env = pure none) (h1 : (assignEach [.Subscript (.Name x p) k tpos] X.env).map (·.2) = [assign (.Subscript (.Name x p) k tpos) X.env]) :
    PS X (.Assign [.Subscript (.Name x p) k tpos] e pos) (tS Γ φ W (.seti i ck ce)) := by
  refine PS.of (ps_asg he (pg_sub ho hk set_list hsub) hs hw h1) fun D σ H ⟨F, ρ, ok, h⟩ => ⟨F, ρ, ok, ?_⟩
  rw [run] at h
  refine PostS.bnd h fun y ρ1 h u F1 H1 g1 r1 => ?_
  cases q2 : A.frz y ρ1 with
  | stuck => rw [q2] at h; exact h.elim
  | exc u ρ1 => exact (frz_exc q2).elim
  | ok d ρ2 =>
  rw [q2] at h
  simp only [FR.of_ok] at h
  obtain ⟨F2, g2, rd⟩ := Go.frz g1 r1 q2
  cases q : ownL ρ2 i with
  | none => rw [q] at h; exact h.elim
  | some ds =>
  rw [q] at h
  dsimp only at h
  refine ⟨F2, ρ2, g2.ok, ?_⟩
  rw [ev_own q]
  intro v F3 H3 g3 r3
  obtain ⟨a, xs, e1, fa, ha, ra⟩ := own_at g3.ok q
  obtain ⟨e2, _⟩ := r3
  rw [e1] at e2
  cases e2
  refine ⟨F3, ρ2, g3.ok, ?_⟩
  refine PostS.bnd (PostS.from h (g2.trans g3)) fun z ρ3 h w F4 H4 g4 r4 => ?_
  split at h
  · rename_i n es q4
    obtain ⟨a', ys, e3, fa', ha', ra'⟩ := own_at g4.ok q4
    rw [e1] at e3
    cases e3
    have r4' : Rep Γ.K F4 (.int n) w := r4
    rw [Rep] at r4'
    subst r4'
    split at h
    · rename_i j qj
      refine ⟨a, ys, n, j, rfl, rfl, ha', by rw [← ra'.length]; exact qj, ?_⟩
      exact h σ F4 _ (g4.trans (put_ok g4.ok q4 e1 (Reps.set (Rep.mono (g3.trans g4).grow _ _ rd) j ra')))
    · exact h.elim
  · exact h.elim

/-! ### loops -/
theorem s_whl {ct : T} {body : List Stmt} (hp : PassesOwn (model X.prog X.w) X.A X.env X.xe) (hc : PT X c (Tt Γ φ W ct)) (hb : PSs X body (tSs Γ φ W css)) : PS X (.While c body [] pos) (tS Γ φ W (.whl ct css)) := by
  refine PS.of (ps_while hp hc hb) fun D σ H ⟨F, ρ, ok, h⟩ => ?_
  rw [run] at h
  refine ⟨fun m σ H => ∃ F ρ, Ok Γ.K F H σ ρ ∧ PostS Γ F H σ ρ W (whGo (evT φ ct) (runs φ css) m ρ) D, ⟨_, F, ρ, ok, h⟩, ?_⟩
  rintro m σ H ⟨F, ρ, ok, h⟩
  cases m with
  | zero => exact h.elim
  | succ m =>
  rw [whGo] at h
  refine ⟨F, ρ, ok, PostS.bnd h fun k ρ1 h b F1 H1 g1 r => ?_⟩
  subst r
  cases b with
  | false =>
    simp only [Bool.false_eq_true, if_false] at h ⊢
    exact h σ F1 H1 g1
  | true =>
    simp only [if_true] at h ⊢
    refine ⟨_, fun σ' H' q => ⟨m, Nat.lt_succ_self m, q⟩, F1, ρ1, g1.ok, ?_⟩
    cases q : runs φ css ρ1 with
    | next ρ2 => rw [q] at h; exact fun σ' F' H' g => ⟨F', ρ2, g.ok, PostS.from h (g1.trans g)⟩
    | cont ρ2 => rw [q] at h; exact fun σ' F' H' g => ⟨F', ρ2, g.ok, PostS.from h (g1.trans g)⟩
    | brk ρ2 => rw [q] at h; exact fun σ' F' H' g => h σ' F' H' (g1.trans g)
    | ret a ρ2 => rw [q] at h; exact fun σ' F' H' v g r => h σ' F' H' v (g1.trans g) (RepA.back2 g1 r)
    | exc x ρ2 => rw [q] at h; exact fun σ' F' H' C d g r => h σ' F' H' C d (g1.trans g) r
    | stuck => rw [q] at h; exact h.elim
    | any f => rw [q] at h; exact h.elim
theorem s_for {tg iter : Expr} {ctg : Tg} {cit : Pv.It} {body : List Stmt} (hp : PassesOwn (model X.prog X.w) X.A X.env X.xe) (hc : X.calm = true) (hi : PI X tg iter (Ti Γ φ W cit)) (hg : PG X tg (gT Γ ctg)) (hb : PSs X body (tSs Γ φ W css)) (hs : ∀ x, foldedSetIterable iter X.env x = pure x) :
    PS X (.For tg iter body [] pos) (tS Γ φ W (.fr ctg cit css)) := by
  refine PS.of (ps_for hp hc hi hg hb hs) fun D σ H ⟨F, ρ, ok0, h⟩ => ?_
  rw [run] at h
  refine ⟨F, ρ, ok0, PostS.bnd h fun p ρ1 h J F1 H1 g1 r1 => ?_⟩
  obtain ⟨x, ds⟩ := p
  cases ql : lockW ρ1 x with
  | none => simp only [ql] at h; exact h.elim
  | some pr =>
  obtain ⟨ρl, un⟩ := pr
  simp only [ql] at h
  obtain ⟨okl, ⟨src, hsrc, hw⟩, hun⟩ := lock_ok g1.ok r1 ql
  generalize qr : forGo ctg (runs φ css) ds ρl = res at h
  refine ⟨fun i m σc Hc => m = ds.length - i ∧ i ≤ ds.length ∧ ∃ Fc ρc, Go Γ.K F1 H1 σ ρl Fc Hc σc ρc ∧ forGo ctg (runs φ css) (ds.drop i) ρc = res, ⟨_, rfl, Nat.zero_le _, F1, ρl, Go.refl okl, qr⟩, ?_⟩
  rintro i m σc Hc ⟨em, hi, Fc, ρc, g, e⟩
  have wk := hw Fc Hc g.grow g.ok.le fun a o es => g.frame a o (hsrc a o es).1 fun z => (hsrc a o es).2 z
  by_cases hil : ds.length ≤ i
  · refine .inl ⟨wk.2.2 i hil, ?_⟩
    rw [List.drop_eq_nil_of_le hil] at e
    unfold forGo at e
    subst e
    exact h σc Fc Hc (g1.trans (hun _ _ _ _ g))
  · have hil' : i < ds.length := Nat.lt_of_not_le hil
    refine .inr ⟨wk.1 i hil', _, fun σ' H' q => ⟨ds.length - (i + 1), by omega, q⟩, fun v H' hy => ?_⟩
    have hd : ds[i]? = some ds[i] := List.getElem?_eq_getElem hil'
    obtain ⟨F2, ext, rv⟩ := wk.2.1 i ds[i] v H' hd hy
    rw [List.drop_eq_getElem_cons hil'] at e
    unfold forGo at e
    have g2 := ext.go g.ok
    cases qt : tgD ctg ds[i] ρc with
    | none => rw [qt] at e; subst e; exact h.elim
    | some ρ2 =>
    rw [qt] at e
    dsimp only at e
    refine ⟨F2, ρc, ds[i], ρ2, g2.ok, rv, qt, fun σ' g3 hl ho => ⟨F2, ρ2, g3.ok, ?_⟩⟩
    have gA := g.trans (g2.trans g3)
    cases q : runs φ css ρ2 with
    | next ρ3 => rw [q] at e; exact fun σ' F' H' g' => ⟨rfl, hil', F', ρ3, gA.trans g', e⟩
    | cont ρ3 => rw [q] at e; exact fun σ' F' H' g' => ⟨rfl, hil', F', ρ3, gA.trans g', e⟩
    | brk ρ3 => rw [q] at e; subst e; exact fun σ' F' H' g' => h σ' F' H' (g1.trans (hun _ _ _ _ (gA.trans g')))
    | ret a ρ3 =>
      rw [q] at e; subst e
      intro σ' F' H' v g' r
      refine h σ' F' H' v (g1.trans (hun _ _ _ _ (gA.trans g'))) (RepA.back2 g1 ?_)
      have r := RepA.back2 gA r
      cases a with
      | d y => exact r
      | fr y =>
        obtain ⟨b, eb, b0, fb, nh, cb⟩ := r
        refine ⟨b, eb, b0, fb, fun z => ?_, cb⟩
        obtain ⟨j, hj, ej⟩ := z
        exact nh ⟨j, unlock_held ql (gA.trans g') j hj, ej⟩
      | pl j =>
        obtain ⟨ej, lj⟩ := r
        exact ⟨ej, unlock_live ql _ j lj⟩
      | ft y z =>
        have no : ∀ {b : Addr}, ¬ Hld σ' ρ3 b → ¬ Hld σ' (un ρ3) b := fun {b} nh ⟨j, hj, ej⟩ => nh ⟨j, unlock_held ql (gA.trans g') j hj, ej⟩
        obtain ⟨a, b, ys, u, e, h0, f0, nh, ca, rs, h0b, fb, nhb, q⟩ := r
        exact ⟨a, b, ys, u, e, h0, f0, no nh, ca, rs, h0b, fb, no nhb, q⟩
    | exc y ρ3 => rw [q] at e; subst e; exact fun σ' F' H' C d g' r => h σ' F' H' C d (g1.trans (hun _ _ _ _ (gA.trans g'))) r
    | stuck => rw [q] at e; subst e; exact h.elim
    | any f => rw [q] at e; subst e; exact h.elim
end
end Pv

/-! Px1: a class of errors of the program, called: its __init__ says super().__init__(place). -/
namespace Px
open PySem PySem.Spec PySem.W PySem.Calls
open PyProof.Rows hiding St
abbrev initParams (p0 p1 : Pos) : Arguments := { posonlyargs := [], args := [{ arg := "self", annotation := none, pos := p0 }, { arg := "place", annotation := none, pos := p1 }], vararg := none, kwonlyargs := [], kw_defaults := [], kwarg := none, defaults := [] }
abbrev initScope : Scope := { kind := .function, names := [("self", .local), ("place", .local), ("__class__", .free), ("super", .globalImplicit)], isGenerator := false, isCoroutine := false, more := [] }
abbrev sSup (a b c d e f : Pos) : Stmt := .Expr (.Call (.Attribute (.Call (.Name "super" a) [] [] b) "__init__" c) [.Name "place" d] [] e) f
abbrev sPlc (a b c d : Pos) : Stmt := .Assign [.Attribute (.Name "self" a) "place" b] (.Name "place" c) d
abbrev sNam (z : Str) (k : Nat) (a b c d : Pos) : Stmt := .Assign [.Attribute (.Name "self" a) "name" b] (.Constant (.str z) k c) d
/-- what the written part holds of a method that says super() -/
structure InitF (prog : Program) (K : Frag) (f D : Addr) (q : Str) (body : List Stmt) : Prop where
  fn : ∃ oc od dV kV doc pm an cda ct cc osl p0 p1, K.lookup f = some ⟨oc, od, .func (ksFn "__init__" q (initParams p0 p1) body initScope dV kV doc pm an (.ref cda) ct cc), osl⟩ ∧ dV = .none ∧ codeIn K (.ref cda) q = true ∧
    (∃ ccl cdd vs ccs file tf, K.lookup cda = some ⟨ccl, cdd, .fields vs, ccs⟩ ∧ vs[2]? = some (.str file tf) ∧ ((prog.main.file : Str) == file) = true) ∧
    ∃ cl cld csl, K.lookup cc = some ⟨cl, cld, .cell (some (.ref D)), csl⟩
  ty : typeIn K (.ref f) = some (.type "function")
/-- what the world holds -/
structure Wd (prog : Program) (K : Frag) (mg : Str → Option Value) (h : Heap) : Prop where
  kin : K.In h
  g : h.Ns mainGlobals mg
  b : ∃ mb, h.Ns builtinsNs mb ∧ ∀ x : Str, x ≠ "__name__" → mb x = bootBuiltins x
  lim : h.NoLimit
theorem Wd.keeps {prog : Program} {K : Frag} {mg : Str → Option Value} {h h' : Heap} (X : Wd prog K mg h) (k : ∀ b o, h.get? b = some o → h'.get? b = some o) : Wd prog K mg h' :=
  ⟨X.kin.keeps k, X.g.keeps k, let ⟨mb, a, c⟩ := X.b; ⟨mb, a.keeps k, c⟩, X.lim.keeps k⟩
section
variable {prog : Program} {w : World} {A : Around} {E : Value → Shared → Prop} {K : Frag} {mg : Str → Option Value}
/-- super() in such a method -/
theorem node {s : Shared} {L x C D f cda cc : Addr} {ox : Obj} {m : Str → Option Value} {body : List Stmt} {q : Str} {p0 p1 pa pb : Pos} {whole : Sem Value} {attr : Str} {fd : FuncData} {oc : Value} {od : Option Addr} {osl : Array (Option Value)} {cdD : ClassData} {Q : Value → Shared → Prop}
    {ccl cl : Value} {cdd cld : Option Addr} {vs : Array Value} {ccs csl : Array (Option Value)} {file : Str} {tf : Tok}
    (X : Wd prog K mg s.heap) (hL : s.heap.Ns L m) (hv : m "self" = some (.ref x)) (hx : s.heap.get? x = some ox) (hxc : ox.cls = .ref C) (hnc : ∀ c, ox.data ≠ .cls c)
    (hf : K.lookup f = some ⟨oc, od, .func fd, osl⟩) (hp : fd.params = initParams p0 p1) (hcode : K.lookup cda = some ⟨ccl, cdd, .fields vs, ccs⟩) (hvs : vs[2]? = some (.str file tf)) (hfile : ((prog.main.file : Str) == file) = true)
    (hcell : K.lookup cc = some ⟨cl, cld, .cell (some (.ref D)), csl⟩) (hD : clsIn K D = some cdD) (hsub : mroIn K C (.ref D) = some true) (hsuper : mg "super" = none)
    (hat : (attr == ("__class__" : Str)) = false) (htop : (prog.main.scope.names.lookup ("super" : Str)).isSome = false)
    (h : ∀ so h', so = s.heap.objs.size → h'.get? so = some (ks_superObj D x C) → (∀ b o, s.heap.get? b = some o → h'.get? b = some o) → Q (.ref so) { s with heap := h' }) :
    _root_.PySem.wpAt (model prog w) A (.func body (ksEnv q initScope L f (.ref cda) cc)) (attributeBase (.Call (.Name "super" pa) [] [] pb) attr (ksEnv q initScope L f (.ref cda) cc) whole) Q E s := by
  have XK := X.kin
  obtain ⟨mb, hb1, hb2⟩ := X.b
  have hg := X.g
  obtain ⟨hh, g, d, t, os⟩ := s
  obtain ⟨oD, hD1, hD2⟩ : ∃ oD, hh.get? D = some oD ∧ oD.data = .cls cdD := by
    unfold clsIn at hD
    split at hD
    · rename_i c d cd' sl ho
      cases hD
      exact ⟨_, XK _ _ ho, rfl⟩
    · cases hD
  refine ks_wpAt_super_base (env := ksEnv q initScope L f (.ref cda) cc) rfl rfl hat rfl (XK _ _ hf) rfl (ar := { arg := "self", annotation := none, pos := p0 }) (by rw [hp]; rfl) rfl (XK _ _ hcode) rfl hvs hfile htop ?_
  refine ks_loadName_global rfl rfl (Calls.loadGlobal_builtin (env := ksEnv q initScope L f (.ref cda) cc) hg hsuper hb1 ((hb2 _ (by decide +kernel)).trans (show bootBuiltins "super" = some (.type "super") by first | rfl | kernel_rfl)) ⟨rfl, ?_⟩)
  refine wpAny_loadName_free rfl rfl rfl ⟨_, XK _ _ hcell, rfl⟩ ?_
  refine wpAny_loadName_local rfl rfl hL hv ?_
  refine ks_wpAny_isType_cls hD1 hD2 ⟨rfl, ?_⟩
  exact ks_wpAny_call_super hD1 hD2 hx hxc hnc (looks_mroIn XK hsub) fun h' e k => h _ _ rfl e k

theorem loc_ {M : Model} {A : Around} {E : Value → Shared → Prop} {s : Shared} {env : PySem.Env} {m : Str → Option Value} {x : Str} {pos : Pos} {v : Value} {Q : Value → Shared → Prop} (hn : s.heap.Ns env.locals m) (hv : m x = some v) (h : Q v s)
    (hk : env.scope.kind = .function := by rfl) (hl : env.kindOf x = some .local := by rfl) (hd : (x == ("__debug__" : Str)) = false := by decide) : wpAny M A (eval (.Name x pos) env) Q E s := wpAny_Name (wpAny_loadName_local hk hl hn hv h) hd
theorem arg1 {M : Model} {A : Around} {E : Value → Shared → Prop} {s : Shared} {env : PySem.Env} {m : Str → Option Value} {x : Str} {p pos : Pos} {v : Value} {Q : List Value → Shared → Prop} (hn : s.heap.Ns env.locals m) (hv : m x = some v) (h : Q [v] s)
    (hk : env.scope.kind = .function := by rfl) (hl : env.kindOf x = some .local := by rfl) (hd : (x == ("__debug__" : Str)) = false := by decide) (he : starEach [.Name x p] env = (false, eval (.Name x p) env) :: starEach [] env := by rfl) : wpAny M A (spliced (backTo pos (starEach [.Name x p] env))) Q E s :=
  spliced_more (loc_ hn hv (spliced_none h) hk hl hd) he
theorem scope_cell : ∀ x ∈ initScope.names, x.2 ≠ .cell := by decide +kernel
abbrev bnd (a b : Value) : List (Str × Value) := [("self", a), ("place", b)]
theorem scope_loc (a b : Value) : ∀ x ∈ bnd a b, initScope.names.lookup x.1 = some .local := by
  intro x hx
  rcases List.mem_cons.mp hx with rfl | hx
  · rfl
  · rw [List.mem_singleton.mp hx]; rfl
theorem mc_he {o : Expr} {name x : Str} {c d e : Pos} {env : PySem.Env} (hline : (c.endLine == e.line) = true) (he : starEach [.Name x d] env = (false, eval (.Name x d) env) :: starEach [] env) : eval (.Call (.Attribute o name c) [.Name x d] [] e) env = (do
    let ov ← attributeBase o name env (eval o env)
    standAt c.atName
    let (f, first) ← holding [ov] (getMethod ov name (do return (← importBound o env).getD true))
    callWith e f first (backTo e (starEach [.Name x d] env)) []) := by
  rw [arm_eval_Call]
  have hform : methodCallForm ([Expr.Name x d].length + ([] : List Keyword).length) (backTo e (starEach [.Name x d] env)) (backToKw e (keywordEach [] env)) = true := by rw [he]; rfl
  have hpos : methodCallPos true o env c e = pure e := by unfold methodCallPos; simp [hline]
  unfold methodCall
  rw [hform]
  simp only [calleeOf, if_true, hpos, pure_bind]
  rfl
/-- the bound ValueError.__init__ is called -/
theorem call_mw {h : Heap} {g : Array GenState} {d : Drawn} {t : Nat} {os : OsState} {nm q : Str} {C N u e t0 : Addr} {bs bm : List Value} {hdct : Bool} {sn : List Str} {sub : List Value} {ab : Bool} {col : Option Bool} {dd : Option Addr} {k0 k1 k2 k3 k5 : Option Value} {rest : List Value} {Q : Value → Shared → Prop}
    (hC : h.get? C = some (excClassObj nm q C N bs bm hdct sn sub ab col dd k0 k1 k2 k3 k5 "ValueError.__new__")) (he : h.get? e = some (HandSPX.excO C t0)) (hu : h.get? u = some (kxs_mw "ValueError.__init__" e)) (hrest : rest.length ≤ sizeLine)
    (hq : ∀ h' t1, (∀ b o, b ≠ e → h.get? b = some o → h'.get? b = some o) → h'.get? e = some (HandSPX.excO C t1) → h.objs.size < h'.objs.size → Q .none ⟨h', g, d, t, os⟩) : wpAny (model prog w) A (call (.ref u) rest) Q E ⟨h, g, d, t, os⟩ := by
  refine wpAny_call (codeAny_of_tree ?_); show wpAny _ A.in1 (callAny (.ref u) ⟨rest, []⟩) _ _ _
  simp only [callAny]; refine wpAny_bind (wpAny_load hu ?_)
  have e1 : (Value.type "method-wrapper" == Value.type "method" || Value.type "method-wrapper" == Value.type "builtin_function_or_method" || Value.type "method-wrapper" == Value.type "method-wrapper") = true := by decide
  simp only [kxs_mw, e1, if_true]
  refine KFB.if_so (by decide) (wpAny_bind (check_bound_init F.excBase_ValueError.toExcCallFacts hC he rfl (wpAny_bind (wpAny_pure (wpAny_pure ⟨plainId_quiet F.excBase_ValueError.init.plain _, codeAny_builtin F.excBase_ValueError.initEntry ?_⟩)))))
  exact exc_init_tree (cls := .ref C) (t0 := t0) (dv := none) (c2 := .none) (c3 := .none) (b4 := .bool false) he hrest fun h' k e' z => hq h' _ k e' (Heap.lt_size z)
/-- what the written part says of the class at C -/
structure ExcF (K : Frag) (C : Addr) : Prop where
  o : L2.OexC K C
  stat : nsIn K cStatics "thirdparty.any" = some none
  noP : findIn K (.ref C) "place" = some none
  noN : findIn K (.ref C) "name" = some none
theorem ExcF.cd {K : Frag} {C : Addr} (T : ExcF K C) : ∃ cd bm, clsIn K C = some cd ∧ cd.mro = .ref C :: bm ∧ HandSPX.refsVE cd.mro = true ∧ cd.hasDict = true := by
  obtain ⟨nm, q, N, bs, bm, sn, sub, ab, col, dd, k0, k1, k2, k3, k5, hC, hbm⟩ := T.o.cls
  exact ⟨{ name := nm, bases := bs, mro := .ref C :: bm, ns := N, qualname := q, hasDict := true, slotNames := sn, subclasses := sub, abstract := ab, collection := col, hasDel := false }, bm, by unfold clsIn; rw [hC], rfl, hbm, rfl⟩
theorem ExcF.ve {K : Frag} {C : Addr} (T : ExcF K C) : mroIn K C (.type "ValueError") = some true := by
  obtain ⟨cd, bm, hc, _, hm, _⟩ := T.cd
  unfold mroIn
  rw [hc, Option.bind_some, if_neg (by rw [HandSPX.refsVE_ne hm]; decide), show cd.mro.contains (.type "ValueError") = true from (HandSPX.refsVE_contains "ValueError" _ hm).trans (by decide +kernel)]
theorem ne_cls {K : Frag} {h : Heap} {x C : Addr} {ox : Obj} {cd : ClassData} (X : K.In h) (hx : h.get? x = some ox) (hn : ∀ c, ox.data ≠ .cls c) (hc : clsIn K C = some cd) : x ≠ C := by
  rintro rfl
  unfold clsIn at hc
  split at hc
  · rename_i ho
    have e := X _ _ ho
    rw [hx] at e
    cases e
    exact hn _ rfl
  · cases hc
theorem ns_but {h h' : Heap} {L x : Addr} {m : Str → Option Value} {ox : Obj} {vs : Array Value} (hn : h.Ns L m) (hx : h.get? x = some ox) (hd : ox.data = .fields vs) (k : ∀ b o, b ≠ x → h.get? b = some o → h'.get? b = some o) : h'.Ns L m := by
  obtain ⟨o, es, ep, e, d, r⟩ := hn
  refine ⟨o, es, ep, k _ _ (fun z => ?_) e, d, r⟩
  rw [z, hx] at e
  cases e
  rw [hd] at d
  cases d
theorem Wd.but {h h' : Heap} {x : Addr} {ox : Obj} {vs : Array Value} (X : Wd prog K mg h) (hK : K.lookup x = none) (hx : h.get? x = some ox) (hd : ox.data = .fields vs) (k : ∀ b o, b ≠ x → h.get? b = some o → h'.get? b = some o) : Wd prog K mg h' := by
  obtain ⟨mb, a, c⟩ := X.b
  obtain ⟨mc, e, f⟩ := X.lim
  exact ⟨fun b o e => k b o (fun z => by rw [z, hK] at e; cases e) (X.kin b o e), ns_but X.g hx hd k, ⟨mb, ns_but a hx hd k, c⟩, ⟨mc, ns_but e hx hd k, f⟩⟩
/-- the fields of such an error -/
def flds (place : Value) (nm : Value) : Str → Option Value := fun y => if y = "name" then some nm else if y = "place" then some place else none
abbrev excD (C t dx : Addr) : Obj := { cls := .ref C, dict := some dx, data := .fields #[.ref t, .none, .none, .none, .bool false, .none] }
/-- what an __init__ leaves -/
def Made (x C : Addr) (place : Value) (z : Str) (s s' : Shared) : Prop := ∃ t1 dx tk, s'.gens = s.gens ∧ s'.os = s.os ∧ (∀ b o, b ≠ x → s.heap.get? b = some o → s'.heap.get? b = some o) ∧ s.heap.objs.size ≤ dx ∧ dx ≠ x ∧
  s'.heap.get? x = some (excD C t1 dx) ∧ s'.heap.Ns1 dx (flds place (.str z tk))
theorem cw1 {M : Model} {A : Around} {E : Value → Shared → Prop} {s : Shared} {i : String} {u x : Addr} {pos : Pos} {env : PySem.Env} {e : Expr} {Q : Value → Shared → Prop}
    (h : wpAny M A (spliced (backTo pos (starEach [e] env))) (fun vs s1 => KxsAt i u x s1.heap ∧ wpAny M A (call (.ref u) vs) Q E s1) E s) (he : starEach [e] env = (false, eval e env) :: starEach [] env := by rfl) :
    wpAny M A (callWith pos (.ref u) [] (backTo pos (starEach [e] env)) []) Q E s := by
  rw [he] at h ⊢
  exact kxs_callWith (i := i) (x := x) rfl (evalArgs_plain h)
theorem cwM {M : Model} {A : Around} {E : Value → Shared → Prop} {s : Shared} {u f : Addr} {self : Value} {pos : Pos} {env : PySem.Env} {e : Expr} {Q : Value → Shared → Prop} (hf : fnIn K f = true)
    (h : wpAny M A (spliced (backTo pos (starEach [e] env))) (fun vs s1 => MethP K u f self s1.heap ∧ wpAny M A (call (.ref u) vs) Q E s1) E s) (he : starEach [e] env = (false, eval e env) :: starEach [] env := by rfl) :
    wpAny M A (callWith pos (.ref u) [] (backTo pos (starEach [e] env)) []) Q E s := by
  rw [he] at h ⊢
  exact callWith_of rfl (keeps_M hf) (evalArgs_plain h)
theorem const_str {M : Model} {A : Around} {E : Value → Shared → Prop} {s : Shared} {env : PySem.Env} {z : Str} {j : Nat} {pos : Pos} {Q : Value → Shared → Prop} (h : Q (.str z s.toks) { s with toks := s.toks + 1 }) : wpAny M A (eval (.Constant (.str z) j pos) env) Q E s := Calls.Constant_str h
theorem execs_end {M : Model} {A : Around} {c : Code} {E : Value → Shared → Prop} {s : Shared} {env : PySem.Env} {Q : Flow → Shared → Prop} (h : Q .next s) : _root_.PySem.wpAt M A c (execs [] env) Q E s := wpAt_of_wpAny (wpAny_execs_nil h)
theorem init_base {s : Shared} {f D x C t0 : Addr} {q : Str} {place : Value} {k : Nat} {a1 a2 a3 a4 a5 a6 b1 b2 b3 b4 c1 c2 c3 c4 : Pos} {R : Result → Shared → Prop} (X : Wd prog K mg s.heap) (hl : (a3.endLine == a5.line) = true) (hroom : A.depth < recursionLimit) (hKx : K.lookup x = none)
    (IF : InitF prog K f D q [sSup a1 a2 a3 a4 a5 a6, sPlc b1 b2 b3 b4, sNam "WireError" k c1 c2 c3 c4]) (T : ExcF K C) (hx : s.heap.get? x = some (HandSPX.excO C t0)) (hD : ∃ cd, clsIn K D = some cd) (hsub : mroIn K C (.ref D) = some true)
    (hsup : ks_superIn K C D "__init__" = some (some (.builtin "ValueError.__init__"))) (hsuper : mg "super" = none) (htop : (prog.main.scope.names.lookup ("super" : Str)).isSome = false)
    (hR : ∀ s', Made x C place "WireError" s s' → R (.ok (.ret .none)) s') : codeAny (model prog w) A (.call (.ref f) ⟨[.ref x, place], []⟩) R s := by
  obtain ⟨oc, od, dV, kV, doc, pm, an, cda, ct, cc, osl, p0, p1, lk, rfl, hcd, ⟨ccl, cdd, vs, ccs, file, tf, hcode, hvs, hfile⟩, cl, cld, csl, hcell⟩ := IF.fn
  obtain ⟨cdD, hD⟩ := hD
  obtain ⟨cd, bm, hc, hm, hbm, hdict⟩ := T.cd
  obtain ⟨nm, qn, N, bs, bm', sn, sub, ab, col, dd, k0, k1, k2, k3, k5, hC, hbm'⟩ := T.o.cls
  have hve := T.ve
  have hb : bindArgs (ksFn "__init__" q (initParams p0 p1) [sSup a1 a2 a3 a4 a5 a6, sPlc b1 b2 b3 b4, sNam "WireError" k c1 c2 c3 c4] initScope .none kV doc pm an (.ref cda) ct cc) ⟨[.ref x, place], []⟩ = pure (bnd (.ref x) place) := by rfl
  unfold ks_superIn at hsup
  rw [hc, Option.bind_some] at hsup
  refine ks_codeAny_call_defAt (fd := ksFn "__init__" q (initParams p0 p1) _ initScope .none kV doc pm an (.ref cda) ct cc) (binds := bnd (.ref x) place) hroom (X.kin _ _ lk) rfl X.lim (codeRec_of X.kin hcd) rfl (BindsTo.of_eq hb) scope_cell (scope_loc _ _) (fun h1 hns hk => ?_)
  have X1 := X.keeps hk
  obtain ⟨hh, g, d, t, os⟩ := s
  have hxL : x ≠ hh.objs.size := Nat.ne_of_lt (Heap.lt_size hx)
  have hx1 := hk _ _ hx
  refine ks_wpAt_execs_cons (ks_wpAt_Expr_any (ks_wpAt_MethodCall (node (C := C) (D := D) X1 hns rfl hx1 rfl (fun c z => by cases z) lk rfl hcode hvs hfile hcell hD hsub hsuper rfl htop fun so h2 eso hso k2 => ?_) (mc_he hl rfl)))
  have X2 := X1.keeps k2
  have hx2 := k2 _ _ hx1
  have I2 : PySem.W.InstAt h2 x (HandSPX.excO C t0) C none := ⟨hx2, rfl, rfl, trivial⟩
  refine kxs_getMethod kxs_ValueError hso (looks_opaque X2.kin T.stat) (l₀ := cd.mro) ((looks_clsIn X2.kin hc).andThen .now) rfl X2.kin hsup (I2.type.andThen (looks_mroIn X2.kin hve)) (ne_cls X2.kin hx2 (fun c z => by cases z) hc) rfl ?_
  have k3 : ∀ b o, h2.get? b = some o → (h2.push (kxs_mw "ValueError.__init__" x)).get? b = some o := fun b o e => Heap.get?_push_of_some _ e
  have X3 := X2.keeps k3
  have hns3 := (hns.keeps k2).keeps k3
  refine cw1 (i := "ValueError.__init__") (x := x) (arg1 hns3 rfl ⟨Heap.get?_push_at rfl rfl, call_mw (X3.kin _ _ hC) (k3 _ _ hx2) (Heap.get?_push_at rfl rfl) (by rw [sizeLine_eq]; show 1 ≤ 16777216; decide) fun h4 t4 k4 hx4 l4 => ?_⟩)
  have X4 := X3.but hKx (k3 _ _ hx2) rfl k4
  have hns4 := ns_but hns3 (k3 _ _ hx2) rfl k4
  refine ks_wpAt_execs_cons (ks_wpAt_Assign_Attr (wpAt_of_wpAny (loc_ hns4 rfl (loc_ hns4 rfl (set_plain X4.kin (ox := HandSPX.excO C t4) (od := none) ⟨hx4, rfl, rfl, trivial⟩ T.o.sa (HandSPX.exc_osa X4.kin hx4 hc hbm hdict T.noP fun h5 tk5 dx k5 hd5 hne5 hx5 hns5 => ?_))))))
  have X5 := X4.but hKx hx4 rfl k5
  have hns6 := ns_but hns4 hx4 rfl k5
  refine ks_wpAt_execs_cons (ks_wpAt_Assign_Attr (wpAt_of_wpAny (const_str (loc_ hns6 rfl ?_))))
  obtain ⟨oD, esD, epD, hoD, rD⟩ := hns5
  refine set_plain X5.kin (ox := excD C t4 dx) (od := some oD) ⟨hx5, rfl, rfl, hoD⟩ T.o.sa (OEX.osa_old (nl := ["place"]) X5.kin hx5 ⟨oD, esD, epD, hoD, rD⟩ (Within.cons _ _ Within.nil) (by decide) hc hbm hdict T.noN fun h6 tk6 k6 hns7 => execs_end (hR _ ?_))
  have hdx1 : hh.objs.size ≤ dx := by
    have l1 : hh.objs.size < h1.objs.size := hns.lt
    have l2 : h1.objs.size < h2.objs.size := by rw [eso] at hso; exact Heap.lt_size hso
    have l3 : (h2.push (kxs_mw "ValueError.__init__" x)).objs.size = h2.objs.size + 1 := Heap.size_push ..
    have l5 : (h2.push (kxs_mw "ValueError.__init__" x)).objs.size < h4.objs.size := l4
    have l6 : h4.objs.size ≤ dx := hd5
    omega
  refine ⟨t4, dx, _, rfl, rfl, fun b o hb e => k6 b o (fun z => ?_) (k5 b o hb (k4 b o hb (k3 _ _ (k2 _ _ (hk _ _ e))))), hdx1, hne5, k6 x _ (Ne.symm hne5) hx5, hns7⟩
  exact absurd (Nat.lt_of_lt_of_le (Heap.lt_size e) hdx1) (by rw [z]; exact Nat.lt_irrefl _)
theorem meth_mro {K : Frag} {C D f : Addr} {cd : ClassData} {r : Option Value} (h : ks_superIn K C D "__init__" = some r) (hc : clsIn K C = some cd) : alongIn K "__init__" ((cd.mro.dropWhile (· != .ref D)).drop 1) = some r := by
  unfold ks_superIn at h
  rwa [hc, Option.bind_some] at h
theorem init_sub {s : Shared} {f fW D W x C t0 : Addr} {q qW : Str} {place : Value} {k kW : Nat} {z : Str} {a1 a2 a3 a4 a5 a6 c1 c2 c3 c4 A1 A2 A3 A4 A5 A6 B1 B2 B3 B4 C1 C2 C3 C4 : Pos} {R : Result → Shared → Prop} (X : Wd prog K mg s.heap)
    (hl : (a3.endLine == a5.line) = true) (hlW : (A3.endLine == A5.line) = true) (hroom : A.depth + 1 < recursionLimit) (hKx : K.lookup x = none) (IF : InitF prog K f D q [sSup a1 a2 a3 a4 a5 a6, sNam z k c1 c2 c3 c4])
    (IW : InitF prog K fW W qW [sSup A1 A2 A3 A4 A5 A6, sPlc B1 B2 B3 B4, sNam "WireError" kW C1 C2 C3 C4]) (T : ExcF K C) (hx : s.heap.get? x = some (HandSPX.excO C t0)) (hD : ∃ cd, clsIn K D = some cd) (hsub : mroIn K C (.ref D) = some true)
    (hW : ∃ cd, clsIn K W = some cd) (hsubW : mroIn K C (.ref W) = some true) (hsup : ks_superIn K C D "__init__" = some (some (.ref fW))) (hsupW : ks_superIn K C W "__init__" = some (some (.builtin "ValueError.__init__"))) (hsuper : mg "super" = none)
    (htop : (prog.main.scope.names.lookup ("super" : Str)).isSome = false) (hfW : fnIn K fW = true) (hR : ∀ s', Made x C place z s s' → R (.ok (.ret .none)) s') : codeAny (model prog w) A (.call (.ref f) ⟨[.ref x, place], []⟩) R s := by
  obtain ⟨oc, od, dV, kV, doc, pm, an, cda, ct, cc, osl, p0, p1, lk, rfl, hcd, ⟨ccl, cdd, vs, ccs, file, tf, hcode, hvs, hfile⟩, cl, cld, csl, hcell⟩ := IF.fn
  obtain ⟨cdD, hD⟩ := hD
  obtain ⟨cd, bm, hc, hm, hbm, hdict⟩ := T.cd
  have hb : bindArgs (ksFn "__init__" q (initParams p0 p1) [sSup a1 a2 a3 a4 a5 a6, sNam z k c1 c2 c3 c4] initScope .none kV doc pm an (.ref cda) ct cc) ⟨[.ref x, place], []⟩ = pure (bnd (.ref x) place) := by rfl
  have hal := meth_mro (f := f) hsup hc
  refine ks_codeAny_call_defAt (fd := ksFn "__init__" q (initParams p0 p1) _ initScope .none kV doc pm an (.ref cda) ct cc) (binds := bnd (.ref x) place) (by omega) (X.kin _ _ lk) rfl X.lim (codeRec_of X.kin hcd) rfl (BindsTo.of_eq hb) scope_cell (scope_loc _ _) (fun h1 hns hk => ?_)
  have X1 := X.keeps hk
  obtain ⟨hh, g, d, t, os⟩ := s
  have hx1 := hk _ _ hx
  refine ks_wpAt_execs_cons (ks_wpAt_Expr_any (ks_wpAt_MethodCall (node (C := C) (D := D) X1 hns rfl hx1 rfl (fun c z => by cases z) lk rfl hcode hvs hfile hcell hD hsub hsuper rfl htop fun so h2 eso hso k2 => ?_) (mc_he hl rfl)))
  have X2 := X1.keeps k2
  have hx2 := k2 _ _ hx1
  have I2 : PySem.W.InstAt h2 x (HandSPX.excO C t0) C none := ⟨hx2, rfl, rfl, trivial⟩
  obtain ⟨ofW, hfo, hfc⟩ : ∃ o, K.lookup fW = some o ∧ o.cls = .type "function" := Option.map_eq_some_iff.mp (show (K.lookup fW).map (·.cls) = some (.type "function") from IW.ty)
  refine ks_wpAny_getMethod_super hso (looks_opaque X2.kin T.stat) (l₀ := cd.mro) ((looks_clsIn X2.kin hc).andThen .now) rfl X2.kin hal (X2.kin _ _ hfo) hfc (ne_cls X2.kin hx2 (fun c z => by cases z) hc) rfl ?_
  have k3 : ∀ b o, h2.get? b = some o → (h2.push { cls := .type "method", data := .fields #[.ref fW, .ref x] }).get? b = some o := fun b o e => Heap.get?_push_of_some _ e
  have X3 := X2.keeps k3
  have hns3 := (hns.keeps k2).keeps k3
  refine cwM (K := K) (self := .ref x) hfW (arg1 hns3 rfl ⟨⟨Heap.get?_push_at rfl rfl, X3.kin⟩, wpAny_call (ks_codeAny_call_bound (Heap.get?_push_at rfl rfl) (init_base (place := place) X3 hlW ?_ hKx IW T (k3 _ _ hx2) hW hsubW hsupW hsuper htop fun s4 m4 => ?_))⟩)
  · show A.depth + 1 < _
    exact hroom
  obtain ⟨t4, dx, tk4, e1, e2, k4, hd4, hne4, hx4, hn4⟩ := m4
  obtain ⟨h4, g4, d4, tt4, os4⟩ := s4
  have X4 := X3.but hKx (k3 _ _ hx2) rfl k4
  have hns4 := ns_but hns3 (k3 _ _ hx2) rfl k4
  refine ks_wpAt_execs_cons (ks_wpAt_Assign_Attr (wpAt_of_wpAny (const_str (loc_ hns4 rfl ?_))))
  obtain ⟨oD, esD, epD, hoD, rD⟩ := hn4
  have wi : Within (flds place (.str "WireError" tk4)) ["name", "place"] := fun y hy => by
    unfold flds at hy
    split at hy
    · rename_i e; rw [e]; simp
    · split at hy
      · rename_i e; rw [e]; simp
      · exact absurd rfl hy
  refine set_plain X4.kin (ox := excD C t4 dx) (od := some oD) ⟨hx4, rfl, rfl, hoD⟩ T.o.sa (OEX.osa_old X4.kin hx4 ⟨oD, esD, epD, hoD, rD⟩ wi (by decide) hc hbm hdict T.noN fun h6 tk6 k6 hns7 => execs_end (hR _ ?_))
  have hdx1 : hh.objs.size ≤ dx := by
    have l1 : hh.objs.size < h1.objs.size := hns.lt
    have l2 : h1.objs.size < h2.objs.size := by rw [eso] at hso; exact Heap.lt_size hso
    have l3 : (h2.push { cls := .type "method", data := .fields #[.ref fW, .ref x] }).objs.size = h2.objs.size + 1 := Heap.size_push ..
    have l4 : (h2.push { cls := .type "method", data := .fields #[.ref fW, .ref x] }).objs.size ≤ dx := hd4
    omega
  refine ⟨t4, dx, tt4, e1, e2, fun b o hb e => k6 b o (fun z => ?_) (k4 b o hb (k3 _ _ (k2 _ _ (hk _ _ e)))), hdx1, hne4, k6 x _ (Ne.symm hne4) hx4, ?_⟩
  · exact absurd (Nat.lt_of_lt_of_le (Heap.lt_size e) hdx1) (by rw [z]; exact Nat.lt_irrefl _)
  · have ef : (fun y : Str => if y = "name" then some (Value.str z tt4) else flds place (.str "WireError" tk4) y) = flds place (.str z tt4) := by
      funext y
      unfold flds
      split <;> rfl
    rw [← ef]
    exact hns7
end
end Px

/-! Px2: a class of errors of the program, called, over the layer. -/
namespace Px
open PySem PySem.Spec L2
open PyProof.Rows hiding St
/-- its __init__ runs through -/
def InitOk (prog : Program) (w : World) (K : PySem.W.Frag) (mg : Str → Option Value) (C fI : Addr) (z : Str) : Prop := ∀ (A : Around) (s : Shared) (x t0 : Addr) (place : Value) (R : Result → Shared → Prop), Wd prog K mg s.heap → A.depth + 1 < recursionLimit →
  K.lookup x = none → s.heap.get? x = some (HandSPX.excO C t0) → (∀ s', Made x C place z s s' → R (.ok (.ret .none)) s') → codeAny (model prog w) A (.call (.ref fI) ⟨[.ref x, place], []⟩) R s
/-- a class of errors of the program -/
structure XCls (prog : Program) (w : World) (K : PySem.W.Frag) (mg : Str → Option Value) (C : Addr) (z : Str) : Prop where
  f : ExcF K C
  init : ∃ fI, PySem.W.findIn K (.ref C) "__init__" = some (some (.ref fI)) ∧ PySem.W.typeIn K (.ref fI) = some (.type "function") ∧ InitOk prog w K mg C fI z
theorem wd_of {X : Cx} {pins : List (Addr × Obj)} {σ : L2.St} {H : Hp} {s : Shared} (I : Inv X pins σ H s) : Wd X.prog X.K X.mg s.heap :=
  ⟨I.kIn, I.mod.glob.keeps I.bk, let ⟨mb, a, c⟩ := I.mod.blt; ⟨mb, a.keeps I.bk, c⟩, I.nolimit⟩
theorem List.lookup_cons_ne {α : Type} {f g : Str} {y : α} {l : List (Str × α)} (h : f ≠ g) : ((g, y) :: l).lookup f = l.lookup f := by
  rw [List.lookup_cons, show (f == g) = false from by simp [h]]
/-- C(e) -/
def tMkX (C : Addr) (z : Str) (te : TE) : L2.St → Hp → XK → Prop := fun σ H Q => te σ H fun v H1 => ∀ d, H1 d = none → Q (.ref C) (some d) (upd H1 d (.xd [("name", .str z), ("place", v)]))
theorem pmk_x {X : Cx} {x z : Str} {C : Addr} {e : Expr} {te : TE} {p pos : Pos} (T : XCls X.prog X.w X.K X.mg C z) (hr : Room 0 X.A) (hg : Gl X x) (hm : X.mg x = some (.ref C)) (ha : PE X e te) (hdb : (x == ("__debug__" : Str)) = false)
    (he : starEach [e] X.env = (false, eval e X.env) :: starEach [] X.env) : PMk X (.Call (.Name x p) [e] [] pos) (tMkX C z te) := by
  intro pins s σ H Q I h
  obtain ⟨fI, iC, tI, ok⟩ := T.init
  have O := T.f.o
  obtain ⟨nm, q, N, bs, bm, sn, sub, ab, col, dd, k0, k1, k2, k3, k5, hC, hbm⟩ := O.cls
  refine wpAny_Call_Name_kw (ld_glob I hg hm (PySem.W.callWith_K (h₀ := X.base) I.ok.mod.kin O.kC ?_ he (by rfl)) hdb)
  refine spliced_more (he := he) (thn (ha.run pins s σ H _ I h) fun u s1 ⟨v, H1, I1, r1, q1⟩ => spliced_none ⟨I1.kIn, ?_⟩)
  show wpAny _ _ (call (.ref C) [u]) _ _ _
  obtain ⟨hp, g, dr, tk, os⟩ := s1
  have hn : ∀ o, X.K.lookup (hp.objs.size + 1) ≠ some o := fun o z => by
    have := Heap.lt_size (I1.kIn _ _ z)
    have l : hp.objs.size + 1 < hp.objs.size := this
    omega
  have kk : ∀ b o, hp.get? b = some o → ((hp.push (PySem.W.kdv_tup [u])).push (HandSPX.excO C hp.objs.size)).get? b = some o := fun b o e => Heap.get?_push_of_some _ (Heap.get?_push_of_some _ e)
  have W1 := wd_of I1
  refine wpAny_call (HandSPX.call_own F.excBase_ValueError (fun Y => HandSPX.refsVE_contains Y bm hbm) (I1.kIn _ _ hC) (PySem.W.looks_findIn I1.kIn iC) (fun self => PySem.W.bind_fn I1.kIn self tI) (by rw [sizeLine_eq]; show 1 ≤ 16777216; decide) ?_)
  refine ok _ _ (hp.objs.size + 1) hp.objs.size u _ (W1.keeps kk) ?_ ?_ (by heap_get) fun s' m => ⟨rfl, ?_⟩
  · have := hr.dp
    rw [make_depth]
    omega
  · cases q : X.K.lookup (hp.objs.size + 1) with
    | none => rfl
    | some o => exact absurd q (hn o)
  obtain ⟨t1, dx, tz, e1, e2, k, hd, hne, hx, hns⟩ := m
  obtain ⟨h2, g2, d2, t2, os2⟩ := s'
  have hxn : hp.get? (hp.objs.size + 1) = none := by
    cases q : hp.get? (hp.objs.size + 1) with
    | none => rfl
    | some o => exact absurd (Heap.lt_size q) (Nat.not_lt_of_le (Nat.le_succ _))
  obtain ⟨G, gG, gX⟩ := restrict h2 fun b => decide (b ≠ hp.objs.size + 1)
  have gk : ∀ b, b ≠ hp.objs.size + 1 → G.get? b = h2.get? b := fun b hb => gG b (decide_eq_true hb)
  have ge : G.get? (hp.objs.size + 1) = none := gX _ (by simp)
  have kG : ∀ b o, hp.get? b = some o → G.get? b = some o := fun b o e => by
    have hb : b ≠ hp.objs.size + 1 := fun y => by rw [y, hxn] at e; cases e
    rw [gk b hb]
    exact k b o hb (kk b o e)
  have hd1 : hp.objs.size ≤ dx := by
    have l1 : ((hp.push (PySem.W.kdv_tup [u])).push (HandSPX.excO C hp.objs.size)).objs.size ≤ dx := hd
    rw [Heap.size_push, Heap.size_push] at l1
    omega
  have nsG : G.Ns1 dx (flds u (.str z tz)) := hns.at fun o y => (gk dx hne).trans y
  have J := I1.laid (t' := t2) (a := dx) (o := .xd [("name", .str z), ("place", v)]) kG hd1 ⟨_, nsG, fun f => ?_⟩
  · refine ⟨hp.objs.size + 1, _, _, _, _, .ref C, some dx, rfl, J, fun b o y => ?_, ge, hx, ⟨rfl, rfl⟩, rfl, rfl, ?_, e2, ?_, raises_own O.exC O.tyC, q1 dx (I1.hok.fresh hd1)⟩
    · by_cases hb : b = hp.objs.size + 1
      · rw [hb, ge] at y; cases y
      · exact (gk b hb).symm.trans y
    · rw [upd_ne (Ne.symm hne)]
      exact I1.hok.fresh (Nat.le_succ _)
    · have eg : g2 = g := e1
      show AllBare g2
      rw [eg]
      exact I1.bare
  · show RelO _ (flds u (.str z tz) f)
    unfold flds
    by_cases h1 : f = "name"
    · subst h1
      rw [if_pos rfl]
      exact ⟨_, rfl⟩
    · rw [if_neg h1, List.lookup_cons_ne h1]
      by_cases h2 : f = "place"
      · subst h2
        rw [if_pos rfl]
        exact r1
      · rw [if_neg h2, List.lookup_cons_ne h2]
        exact True.intro
end Px

/-! Px3: raise, try, except suites. -/
namespace Pv
open PySem PySem.Spec L2
open PyProof.Rows hiding St
/-- a class of errors, raised, caught, asked -/
structure XCx (prog : Program) (w : World) (K : PySem.W.Frag) (mg : Str → Option Value) (C : Addr) (z : Str) : Prop where
  x : Px.XCls prog w K mg C z
  f : XfC K C
  ci : (PySem.W.clsIn K C).isSome = true
  ha : PySem.W.findIn K (.ref C) "__class__" = some (some (.builtin "object.__class__"))
  hn : PySem.W.specialIn K (.builtin "object.__class__") "__get__" = some (some (.builtin "getset_descriptor.__get__"))
  ht : PySem.W.takesIn K (.builtin "object.__class__") = some true
  hm : PySem.W.mroIn K C (.type "object") = some true
  ve : PySem.W.kitOne K (.ref C) (.type "ValueError") = some true
section
variable {K : PySem.W.Frag} {F H : Hp} {σ : L2.St} {ρ : Env}
/-- a slot that the code leaves unset -/
theorem un_at {i j : Nat} {w : Pv.W} (hu : ρ[i]? = some .un) (h : ρ[j]? = some w) (hw : w ≠ .un) : j ≠ i := fun z => by
  subst z
  rw [hu] at h
  exact hw (Option.some.inj h).symm
theorem Ok.un_set {i : Nat} {v : Option V} (ok : Ok K F H σ ρ) (hu : ρ[i]? = some .un) : Ok K F H (σ.set i v) ρ := by
  have se : ∀ {j : Nat} {w : Pv.W}, ρ[j]? = some w → w ≠ .un → (σ.set i v)[j]? = σ[j]? := fun h hw => by rw [List.getElem?_set_ne (Ne.symm (un_at hu h hw))]
  refine ⟨ok.le, by rw [List.length_set]; exact ok.len, fun j d h => ?_, fun j d h => ?_, fun j k a hj hk e1 e2 => ?_⟩
  · rw [se h (by simp)]; exact ok.dat j d h
  · have : (σ.set i v)[j]? = σ[j]? := by rcases h with h | h | h <;> exact se h (by simp)
    rw [this]; exact ok.obj j d h
  · have g : ∀ l, Heldish ρ l → (σ.set i v)[l]? = σ[l]? := fun l ⟨d, h⟩ => by rcases h with h | h | h <;> exact se h (by simp)
    rw [g j hj] at e1
    rw [g k hk] at e2
    exact ok.inj j k a hj hk e1 e2
theorem Go.un_set {i : Nat} {v : Option V} (ok : Ok K F H σ ρ) (hu : ρ[i]? = some .un) : Go K F H σ ρ F H (σ.set i v) ρ := by
  have se : ∀ {j : Nat} {w : Pv.W}, ρ[j]? = some w → w ≠ .un → (σ.set i v)[j]? = σ[j]? := fun h hw => by rw [List.getElem?_set_ne (Ne.symm (un_at hu h hw))]
  refine ⟨ok.un_set hu, Same.refl _, fun a h1 h2 => absurd h2 h1, fun _ _ h _ => h, fun _ h => h, fun a h => ?_, fun j d h => ⟨h, se h (by simp)⟩, fun j d h => ⟨h, se h (by simp)⟩, fun j d h => ⟨d, h, se h (by simp)⟩, fun _ h => h⟩
  obtain ⟨j, ⟨d, hd⟩, e⟩ := h
  refine .inl ⟨j, ⟨d, hd⟩, ?_⟩
  rw [← e]
  rcases hd with hd | hd <;> exact (se hd (by simp)).symm
end
section
variable {X : Cx} {Γ : Gm} {φ : Phi} {W : WX} {e : Expr} {ce : E} {pos : Pos}
theorem s_rse {c : Nat} {x z : Str} {p pos' : Pos} (hc : X.calm = true) (hK : X.K = Γ.K) (tk : Takes X W) (T : XCx X.prog X.w X.K X.mg (Γ.cl c) z) (hn : c < Γ.n) (hr : Room 0 X.A) (hg : Gl X x) (hm : X.mg x = some (.ref (Γ.cl c))) (he : PE X e (Tx Γ φ W ce))
    (hdb : (x == ("__debug__" : Str)) = false) (hs : starEach [e] X.env = (false, eval e X.env) :: starEach [] X.env) : PS X (.Raise (some (.Call (.Name x p) [e] [] pos)) none pos') (tS Γ φ W (.rse c z ce)) := by
  refine PS.of (ps_raise hc tk (Px.pmk_x T.x hr hg hm he hdb hs)) fun D σ H ⟨F, ρ, ok, h⟩ => ⟨F, ρ, ok, ?_⟩
  rw [run] at h
  refine PostS.bnd h fun a ρ1 h v F1 H1 g r => ?_
  cases q2 : A.frz a ρ1 with
  | stuck => rw [q2] at h; exact h.elim
  | exc u ρ1 => exact (frz_exc q2).elim
  | ok d ρ2 =>
  rw [q2] at h
  simp only [FR.of_ok] at h
  obtain ⟨F2, g2, rd⟩ := Go.frz g r q2
  intro dx hdx
  refine h σ F2 _ _ _ (g2.trans (Ext.go g2.ok (.fresh (o := .xd [("name", .str z), ("place", v)]) g2.ok.le hdx))) ⟨hn, rfl, dx, _, v, rfl, upd_same, by rfl, rd, by rfl⟩
/-! ### except suites -/
/-- what stands when a suite begins -/
structure Sx (Γ : Gm) (F H : Hp) (x : Ex) (cls : Value) (d : Option Addr) (o : Option Nat) (a : Addr) (σ : L2.St) (ρ : Env) : Prop where
  ok : Ok Γ.K F H σ ρ
  xr : XRep Γ F H x cls d
  sl : ∀ i, o = some i → σ[i]? = some (some (.ref a)) ∧ ρ[i]? = some .un
theorem XRep.mono {F H F' H' : Hp} {x : Ex} {cls : Value} {d : Option Addr} (r : XRep Γ F H x cls d) (h1 : Same F F') (h2 : Same H H') : XRep Γ F' H' x cls d := by
  obtain ⟨n, e, a, fs, v, e1, e2, e3, e4, e5⟩ := r
  exact ⟨n, e, a, fs, v, e1, h2 _ _ e2, e3, Rep.mono h1 _ _ e4, e5⟩
theorem Sx.ext {F H F' H' : Hp} {x : Ex} {cls : Value} {d : Option Addr} {o : Option Nat} {a : Addr} {σ : L2.St} {ρ : Env} (s : Sx Γ F H x cls d o a σ ρ) (y : Ext F H F' H') : Sx Γ F' H' x cls d o a σ ρ :=
  ⟨(y.go s.ok).ok, s.xr.mono y.grow y.hgrow, s.sl⟩
def tHI (Γ : Gm) (h : HI) (o : Option Nat) (a : Addr) (cls : Value) (d : Option Addr) : TE := fun σ H Q => ∃ F ρ x, Sx Γ F H x cls d o a σ ρ ∧ ∀ v, Rep Γ.K F (h.val x) v → Q v H
def tHIs (Γ : Gm) (hs : List HI) (o : Option Nat) (a : Addr) (cls : Value) (d : Option Addr) : TA := fun σ H Q => ∃ F ρ x, Sx Γ F H x cls d o a σ ρ ∧ ∀ vs, Reps Γ.K F (hs.map (HI.val x)) vs → Q vs H
/-- what is known of all classes -/
def Xs (Γ : Gm) (X : Cx) : Prop := ∀ c, c < Γ.n → ∃ z, XCx X.prog X.w X.K X.mg (Γ.cl c) z
variable {a : Addr} {oe : Obj} {cls : Value} {d : Option Addr} {pn : List (Addr × Obj)} {o : Option Nat}
theorem hi_cst {d' : D} {v : V} (h : PE (X.suite a ((a, oe) :: pn)) e (tC v)) (r : Rep Γ.K (fun _ => none) d' v) : PE (X.suite a ((a, oe) :: pn)) e (tHI Γ (.cst d') o a cls d) :=
  PE.of h fun σ H Q ⟨F, ρ, x, s, q⟩ => q v (Rep.mono (fun _ _ z => by cases z) _ _ r)
theorem hi_fld {b : Bool} {i : Nat} {n f : Str} {p : Pos} (hK : X.K = Γ.K) (hx : Xs Γ X) (hz : Zc cls d oe) (hf : ∃ vs, oe.data = .fields vs) (hN : X.N[i]? = some n) (hv : Vis X.env.scope n) (hd : (n == ("__debug__" : Str)) = false) (hcd : (n == ("__classdict__" : Str)) = false)
    (hb : f = if b then "place" else "name") : PE (X.suite a ((a, oe) :: pn)) (.Attribute (.Name n p) f pos) (tHI Γ (if b then .plc else .nam) (some i) a cls d) := by
  refine ⟨fun pins s σ H Q I h => ?_⟩
  obtain ⟨F, ρ, x, sx, q⟩ := h
  obtain ⟨hn, ec, dx, fs, v, ed, e2, e3, e4, e5⟩ := sx.xr
  obtain ⟨z, C⟩ := hx _ hn
  have no : PySem.W.findIn X.K (.ref (Γ.cl x.cls)) f = some none := by
    subst hb
    cases b with
    | true => exact C.x.f.noP
    | false => exact C.x.f.noN
  refine (pe_xf (C := Γ.cl x.cls) C.f no hz hf (pe_var (i := i) hN hv hd hcd) (by rfl)).run pins s σ H Q I ⟨_, (sx.sl i rfl).1, rfl, ec, dx, fs, ?_⟩
  subst hb
  cases b with
  | true => exact ⟨v, ed, e2, e3, q v e4⟩
  | false => exact ⟨.str x.nm, ed, e2, e5, q _ (by show Rep _ _ (.str _) _; rw [Rep])⟩
theorem his_nil : PA (X.suite a ((a, oe) :: pn)) [] (tHIs Γ [] o a cls d) := PA.of pa_nil fun σ H Q ⟨F, ρ, x, s, q⟩ => q [] .nil
theorem his_cons {es : List Expr} {h : HI} {hs : List HI} (he : PE (X.suite a ((a, oe) :: pn)) e (tHI Γ h o a cls d)) (hr : PA (X.suite a ((a, oe) :: pn)) es (tHIs Γ hs o a cls d)) (hst : starEach (e :: es) X.env = (false, eval e X.env) :: starEach es X.env) :
    PA (X.suite a ((a, oe) :: pn)) (e :: es) (tHIs Γ (h :: hs) o a cls d) := PA.of (pa_cons he hr hst) fun σ H Q ⟨F, ρ, x, s, q⟩ => ⟨F, ρ, x, s, fun v r => ⟨F, ρ, x, s, fun vs rs => q _ (.cons r rs)⟩⟩
/-- an expression of a suite -/
def tHE (Γ : Gm) (h : HE) (o : Option Nat) (a : Addr) (cls : Value) (d : Option Addr) : TE := fun σ H Q => ∃ F ρ x, Sx Γ F H x cls d o a σ ρ ∧ ∀ v F' H', Ext F H F' H' → Rep Γ.K F' (h.val x) v → Q v H'
theorem he_one {h : HI} (he : PE (X.suite a ((a, oe) :: pn)) e (tHI Γ h o a cls d)) : PE (X.suite a ((a, oe) :: pn)) e (tHE Γ (.one h) o a cls d) :=
  PE.of he fun σ H Q ⟨F, ρ, x, s, q⟩ => ⟨F, ρ, x, s, fun v r => q v F H (.refl s.ok.le) r⟩
theorem he_tup {es : List Expr} {hs : List HI} {k : Nat} (hl : hs.length ≤ 100) (he : PA (X.suite a ((a, oe) :: pn)) es (tHIs Γ hs o a cls d)) : PE (X.suite a ((a, oe) :: pn)) (.Tuple es k pos) (tHE Γ (.tup hs) o a cls d) := by
  refine PE.of (pe_tup he) fun σ H Q ⟨F, ρ, x, s, q⟩ => ⟨F, ρ, x, s, fun vs r => ?_⟩
  have hz : (sizeLine : Nat) = 16777216 := sizeLine_eq
  refine ⟨by rw [← Reps.length r, List.length_map, hz]; omega, fun p hp => ?_⟩
  exact q _ _ _ (.frozen (o := .tup vs) s.ok.le hp) (Rep.tup_ upd_same (Reps.mono (Same.upd_new (free_le s.ok.le hp)) _ _ r))
/-! ### isinstance(e, ValueError) -/
def rIsX (Γ : Gm) (cls : Value) (d : Option Addr) (a : Addr) : List V → Hp → VK → Prop := fun xs H Q => xs = [.ref a, .ty "ValueError"] ∧ (∃ c dx fs, c < Γ.n ∧ cls = .ref (Γ.cl c) ∧ d = some dx ∧ H dx = some (.xd fs)) ∧ Q (.bl true) H
theorem call_isX (hx : Xs Γ X) (hz : Zc cls d oe) (hf : ∃ vs, oe.data = .fields vs) : CallR (X.suite a ((a, oe) :: pn)) (.builtin "isinstance") (rIsX Γ cls d a) := by
  intro pins s σ H xs us Q I r h
  obtain ⟨rfl, ⟨c, dx, fs, hn, ec, ed, e2⟩, q⟩ := h
  obtain ⟨u1, u2, rfl, r1, r2⟩ := vals2 r
  obtain rfl : u1 = .ref a := r1
  obtain rfl : u2 = .type "ValueError" := r2
  obtain ⟨z, C⟩ := hx c hn
  obtain ⟨hget, _⟩ := I.pin (a, oe) (List.mem_append.mpr (.inl List.mem_cons_self))
  obtain ⟨vs, hv⟩ := hf
  obtain ⟨mA, ⟨od, es, ep, ho, _⟩, _⟩ := I.hok dx _ e2
  have J : PySem.W.InstAt s.heap a oe (Γ.cl c) (some od) := ⟨hget, hz.1.trans ec, by unfold PySem.W.notCls; rw [hv], by rw [hz.2, ed]; exact ho⟩
  exact PySem.W.kia_one (PySem.W.kitx_exc C.ci C.f.ga C.f.gg C.f.exC C.ha C.hn C.ht C.hm) I.kIn J C.ve (fun z => nomatch z) fun tk => ⟨.bl true, H, I.tok tk, rfl, q⟩
/-- the test of a suite -/
def tXT (Γ : Gm) (o : Option Nat) (a : Addr) (cls : Value) (d : Option Addr) : TT := fun σ H Q => ∃ F ρ x, Sx Γ F H x cls d o a σ ρ ∧ Q true H
theorem xt_is {i : Nat} {n : Str} {p p1 p2 : Pos} (hx : Xs Γ X) (hz : Zc cls d oe) (hf : ∃ vs, oe.data = .fields vs) (hN : X.N[i]? = some n) (hv : Vis X.env.scope n) (hd : (n == ("__debug__" : Str)) = false) (hcd : (n == ("__classdict__" : Str)) = false)
    (hg : Gl X "isinstance") (hm : X.mg "isinstance" = none) (hgv : Gl X "ValueError") (hmv : X.mg "ValueError" = none) :
    PT (X.suite a ((a, oe) :: pn)) (.Call (.Name "isinstance" p) [.Name n p1, .Name "ValueError" p2] [] pos) (tXT Γ (some i) a cls d) := by
  have h1 : PE (X.suite a ((a, oe) :: pn)) (.Name n p1) (tVar i) := pe_var hN hv hd hcd
  have h2 : PE (X.suite a ((a, oe) :: pn)) (.Name "ValueError" p2) (tC (.ty "ValueError")) := pe_bltn hgv hmv PyProof.Rows.Boot.«ValueError» rfl (by decide) (by decide)
  have h3 := pe_callB (X := X.suite a ((a, oe) :: pn)) (p := p) (pos := pos) (x := "isinstance") (call_isX hx hz hf) hg hm (by decide +kernel) (pa_cons h1 (pa_cons h2 pa_nil))
  refine ⟨fun pins s σ H Q I h => (pt_truth h3 (fun _ => rfl)).run pins s σ H Q I ?_⟩
  obtain ⟨F, ρ, x, sx, q⟩ := h
  obtain ⟨hn, ec, dx, fs, v, ed, e2, _⟩ := sx.xr
  exact ⟨_, (sx.sl i rfl).1, rfl, ⟨_, dx, fs, hn, ec, ed, e2⟩, true, (rfl : true = true), q⟩
theorem he_isv {h1 h2 : HI} {t a1 a2 : Expr} (ht : PT (X.suite a ((a, oe) :: pn)) t (tXT Γ o a cls d)) (h : PE (X.suite a ((a, oe) :: pn)) a1 (tHI Γ h1 o a cls d)) (h' : PE (X.suite a ((a, oe) :: pn)) a2 (tHI Γ h2 o a cls d)) :
    PE (X.suite a ((a, oe) :: pn)) (.IfExp t a1 a2 pos) (tHE Γ (.isv h1 h2) o a cls d) :=
  PE.of (pe_ifExp ht h h') fun σ H Q ⟨F, ρ, x, s, q⟩ => ⟨F, ρ, x, s, by
    show (if true = true then tHI Γ h1 o a cls d σ H Q else tHI Γ h2 o a cls d σ H Q)
    rw [if_pos rfl]
    exact ⟨F, ρ, x, s, fun v r => q v F H (.refl s.ok.le) r⟩⟩
/-! ### the suites -/
def tSu (Γ : Gm) (su : Su) (o : Option Nat) (a : Addr) (cls : Value) (d : Option Addr) : TS := fun D σ H => ∃ F ρ x, Sx Γ F H x cls d o a σ ρ ∧ PostS Γ F H σ ρ (fun _ _ _ _ => False) (runSu su x ρ) D
theorem su_ret {h : HE} (he : PE (X.suite a ((a, oe) :: pn)) e (tHE Γ h o a cls d)) : PSs (X.suite a ((a, oe) :: pn)) [.Return (some e) pos] (tSu Γ (.ret h) o a cls d) :=
  PSs.of (pss_one (ps_ret he)) fun D σ H ⟨F, ρ, x, s, q⟩ => ⟨F, ρ, x, s, fun v F' H' y r => q σ F' H' v (y.go s.ok) r⟩
theorem su_retIs {h : HE} {t : Expr} {p : Pos} (ht : PT (X.suite a ((a, oe) :: pn)) t (tXT Γ o a cls d)) (he : PE (X.suite a ((a, oe) :: pn)) e (tHE Γ h o a cls d)) : PSs (X.suite a ((a, oe) :: pn)) [.If t [.Return (some e) pos] [] p] (tSu Γ (.retIs h) o a cls d) :=
  PSs.of (pss_one (ps_if ht (pss_one (ps_ret he)) pss_nil)) fun D σ H ⟨F, ρ, x, s, q⟩ => ⟨F, ρ, x, s, ⟨F, ρ, x, s, fun v F' H' y r => q σ F' H' v (y.go s.ok) r⟩⟩
theorem su_pass : PSs (X.suite a ((a, oe) :: pn)) [.Pass pos] (tSu Γ .pass o a cls d) :=
  PSs.of (pss_one ps_pass) fun D σ H ⟨F, ρ, x, s, q⟩ => q σ F H (Go.refl s.ok)
theorem su_app {j : Nat} {h : HI} {w : Str} {p apos cpos : Pos} (hN : X.N[j]? = some w) (hv : Vis X.env.scope w) (hd : (w == ("__debug__" : Str)) = false) (hcd : (w == ("__classdict__" : Str)) = false) (he : PE (X.suite a ((a, oe) :: pn)) e (tHI Γ h o a cls d))
    (hst : starEach [e] X.env = (false, eval e X.env) :: starEach [] X.env) (hline : (apos.endLine == cpos.line) = true) :
    PSs (X.suite a ((a, oe) :: pn)) [.Expr (.Call (.Attribute (.Name w p) "append" apos) [e] [] cpos) pos] (tSu Γ (.app j h) o a cls d) := by
  have h1 : PE (X.suite a ((a, oe) :: pn)) (.Name w p) (tVar j) := pe_var hN hv hd hcd
  refine PSs.of (pss_one (ps_expr (pe_bm F.plainAttrs_list F.slot_list_append PySem.F.type_list_append mt_append h1 (pa_cons he pa_nil hst) (by rfl) (by show (((backTo cpos (starEach [e] X.env)).all fun x => !x.1) && _ && _) = true; rw [hst]; rfl) hline hst rfl) (by rfl))) fun D σ H ⟨F, ρ, x, s, q⟩ => ?_
  simp only [runSu] at q
  cases q1 : ownL ρ j with
  | none => rw [q1] at q; exact q.elim
  | some ds =>
  rw [q1] at q
  dsimp only at q
  obtain ⟨l, xs, e1, fa, ha, ra⟩ := own_at s.ok q1
  by_cases hz : ds.length < Line
  case neg => rw [if_neg hz] at q; exact q.elim
  rw [if_pos hz] at q
  have hl : (sizeLine : Nat) = 16777216 := sizeLine_eq
  refine ⟨_, e1, .inl ⟨rfl, xs, .inl (.inl ha)⟩, F, ρ, x, s, fun v r => ?_⟩
  refine ⟨l, xs, v, rfl, rfl, ha, by rw [← ra.length, hl]; exact hz, ?_⟩
  exact q σ F _ (put_ok s.ok q1 e1 (ra.append (.one r)))
/-! ### try -/
theorem runSu_un {su : Su} {x : Ex} {ρ ρ' : Env} {i : Nat} (hu : ρ[i]? = some .un) (h : runSu su x ρ = .next ρ') : ρ'[i]? = some .un := by
  cases su with
  | ret h' => cases h
  | retIs h' => cases h
  | pass => cases h; exact hu
  | app j h' =>
    simp only [runSu] at h
    cases q : ownL ρ j with
    | none => rw [q] at h; cases h
    | some ds =>
    rw [q] at h
    dsimp only at h
    split at h
    · cases h
      obtain ⟨b, e1, e2⟩ := ownL_way q
      rw [e2, List.getElem?_set_ne (un_at hu e1 (by cases b <;> simp))]
      exact hu
    · cases h
theorem runSu_no {su : Su} {x y : Ex} {ρ ρ' : Env} (h : runSu su x ρ = .exc y ρ') : False := by
  cases su with
  | ret h' => cases h
  | retIs h' => cases h
  | pass => cases h
  | app j h' =>
    simp only [runSu] at h
    split at h
    · split at h <;> cases h
    · cases h
theorem try_imp {F H : Hp} {σ : L2.St} {ρ : Env} {W W' : WX} {r : FR} {f : Ex → Env → FR} {D : Ends} (h : PostS Γ F H σ ρ W (tryX r f) D)
    (hx : ∀ (x : Ex) (ρ' : Env), PostS Γ F H σ ρ W (f x ρ') D → ∀ (σ' : L2.St) (F' H' : Hp) (C : Value) (d : Option Addr), Go Γ.K F H σ ρ F' H' σ' ρ' → XRep Γ F' H' x C d → W' C d σ' H') : PostS Γ F H σ ρ W' r D := by
  cases r with
  | exc x ρ' => exact hx x ρ' h
  | any f => exact h.elim
  | _ => exact h
theorem s_tryAs {c i : Nat} {su : Su} {x n : Str} {body suite : List Stmt} {b₀ : Stmt} {np pos' : Pos} {cb : Ss} (hs : X.stack = X.env :: X.outer) (hf : X.env.frame = some X.env.locals) (hN : X.N.Nodup) (hi : X.N[i]? = some n) (hln : X.env.kindOf n = some .local)
    (hc : Names X x (.ref (Γ.cl c))) (tk : Takes X W) (hm : ∀ k, k < Γ.n → PySem.W.exmOne X.K (.ref (Γ.cl k)) (.ref (Γ.cl c)) = some (clsB c k))
    (hb : ∀ (W' : WX) (pn : List (Addr × Obj)) (xe : Value → Shared → Prop), Takes (X.tr pn xe) W' → PassesOwn (model X.prog X.w) X.A X.env xe → PSs (X.tr pn xe) body (tSs Γ φ W' cb))
    (hsu : ∀ (a : Addr) (oe : Obj) (cls : Value) (d : Option Addr) (pn : List (Addr × Obj)), Zc cls d oe → (∃ vs, oe.data = .fields vs) → PSs (X.suite a ((a, oe) :: pn)) (b₀ :: suite) (tSu Γ su (some i) a cls d)) :
    PS X (.Try body [.ExceptHandler (some (.Name x np)) (some n) (b₀ :: suite) pos'] [] [] pos) (tS Γ φ W (.tryAs cb c i su)) := by
  refine PS.of (ps_try_as hs hf hN hi hln hc tk hb hsu) fun D σ H ⟨F, ρ, ok, h⟩ => ⟨F, ρ, ok, ?_⟩
  rw [run] at h
  refine try_imp h fun x ρ' h σ' F' H' C d g xr => ?_
  obtain ⟨hn, ec, _⟩ := id xr
  subst ec
  refine ⟨_, hm _ hn, fun hb a ha => ?_, fun hb => ?_⟩
  · unfold asX at h
    rw [if_pos hb] at h
    cases q : ρ'[i]? with
    | none => rw [q] at h; exact h.elim
    | some w =>
    cases w with
    | un =>
      rw [q] at h
      dsimp only at h
      have il : i < σ'.length := by
        rw [← g.ok.len]
        exact (List.getElem?_eq_some_iff.mp q).1
      have gu := Go.un_set (v := some (.ref a)) g.ok q
      refine ⟨F', ρ', x, ⟨gu.ok, xr, fun j hj => ?_⟩, ?_⟩
      · cases hj
        exact ⟨by rw [List.getElem?_set_self il], q⟩
      · cases qr : runSu su x ρ' with
        | ret al ρ2 =>
          rw [qr] at h
          exact fun σ2 F2 H2 v g2 r => h σ2 F2 H2 v ((g.trans gu).trans g2) (RepA.back2 (g.trans gu) r)
        | next ρ2 =>
          rw [qr] at h
          exact fun σ2 F2 H2 g2 => h _ F2 H2 (((g.trans gu).trans g2).trans (Go.un_set g2.ok (runSu_un q qr)))
        | brk ρ2 => rw [qr] at h; exact fun σ2 F2 H2 g2 => by cases su <;> simp only [runSu] at qr <;> first | cases qr | (split at qr <;> first | cases qr | (split at qr <;> cases qr))
        | cont ρ2 => rw [qr] at h; exact fun σ2 F2 H2 g2 => by cases su <;> simp only [runSu] at qr <;> first | cases qr | (split at qr <;> first | cases qr | (split at qr <;> cases qr))
        | exc y ρ2 => exact (runSu_no qr).elim
        | stuck => rw [qr] at h; exact h.elim
        | any f => cases su <;> simp only [runSu] at qr <;> first | cases qr | (split at qr <;> first | cases qr | (split at qr <;> cases qr))
    | _ => rw [q] at h; exact h.elim
  · unfold asX at h
    rw [if_neg (by rw [hb]; simp)] at h
    exact h σ' F' H' _ d g xr
/-- the clauses without names, by number -/
structure HdAt (Γ : Gm) (X : Cx) (c : Nat) (su : Su) (hd : ExceptHandler) : Prop where
  at_ : ∃ x np b₀ suite pos', hd = .ExceptHandler (some (.Name x np)) none (b₀ :: suite) pos' ∧ Names X x (.ref (Γ.cl c)) ∧
    ∀ (a : Addr) (oe : Obj) (cls : Value) (d : Option Addr) (pn : List (Addr × Obj)), Zc cls d oe → (∃ vs, oe.data = .fields vs) → PSs (X.suite a ((a, oe) :: pn)) (b₀ :: suite) (tSu Γ su none a cls d)
  m : ∀ k, k < Γ.n → PySem.W.exmOne X.K (.ref (Γ.cl k)) (.ref (Γ.cl c)) = some (clsB c k)
inductive HdsAt (Γ : Gm) (X : Cx) : List (Nat × Su) → List ExceptHandler → Prop
  | nil : HdsAt Γ X [] []
  | cons {c : Nat} {su : Su} {hd : ExceptHandler} {l : List (Nat × Su)} {hds : List ExceptHandler} (h : HdAt Γ X c su hd) (r : HdsAt Γ X l hds) : HdsAt Γ X ((c, su) :: l) (hd :: hds)
def hdL (Γ : Gm) (l : List (Nat × Su)) : List (Value × (Addr → Value → Option Addr → TS)) := l.map fun p => (.ref (Γ.cl p.1), tSu Γ p.2 none)
theorem hds_ok : ∀ {l : List (Nat × Su)} {hds : List ExceptHandler}, HdsAt Γ X l hds → HdsOk X hds (hdL Γ l)
  | _, _, .nil => .nil
  | _, _, .cons h r => by
    obtain ⟨x, np, b₀, suite, pos', rfl, hc, hsu⟩ := h.at_
    exact .cons hc hsu (hds_ok r)
theorem many_imp {F H F' H' : Hp} {σ σ' : L2.St} {ρ ρ' : Env} {W : WX} {D : Ends} {x : Ex} {d : Option Addr} (g : Go Γ.K F H σ ρ F' H' σ' ρ') (xr : XRep Γ F' H' x (.ref (Γ.cl x.cls)) d) :
    ∀ {l : List (Nat × Su)} {hds : List ExceptHandler}, HdsAt Γ X l hds → PostS Γ F H σ ρ W (pick x ρ' l) D → wMany X.K W D (hdL Γ l) (.ref (Γ.cl x.cls)) d σ' H'
  | _, _, .nil, h => h σ' F' H' _ d g xr
  | (c, su) :: l, _, .cons hh r, h => by
    refine ⟨_, hh.m _ xr.1, fun hb a ha => ?_, fun hb => ?_⟩
    · unfold pick at h
      rw [if_pos hb] at h
      refine ⟨F', ρ', x, ⟨g.ok, xr, fun j hj => by cases hj⟩, ?_⟩
      cases qr : runSu su x ρ' with
      | ret al ρ2 => rw [qr] at h; exact fun σ2 F2 H2 v g2 r => h σ2 F2 H2 v (g.trans g2) (RepA.back2 g r)
      | next ρ2 => rw [qr] at h; exact fun σ2 F2 H2 g2 => h _ F2 H2 (g.trans g2)
      | brk ρ2 => rw [qr] at h; exact fun σ2 F2 H2 g2 => h _ F2 H2 (g.trans g2)
      | cont ρ2 => rw [qr] at h; exact fun σ2 F2 H2 g2 => h _ F2 H2 (g.trans g2)
      | exc y ρ2 => exact (runSu_no qr).elim
      | stuck => rw [qr] at h; exact h.elim
      | any f => cases su <;> simp only [runSu] at qr <;> first | cases qr | (split at qr <;> first | cases qr | (split at qr <;> cases qr))
    · unfold pick at h
      rw [if_neg (by rw [hb]; simp)] at h
      exact many_imp g xr r h
theorem s_tryM {hs : List (Nat × Su)} {h₀ : ExceptHandler} {hds : List ExceptHandler} {body : List Stmt} {cb : Ss} (hst : X.stack = X.env :: X.outer) (hf : X.env.frame = some X.env.locals) (tk : Takes X W) (hh : HdsAt Γ X hs (h₀ :: hds))
    (hb : ∀ (W' : WX) (pn : List (Addr × Obj)) (xe : Value → Shared → Prop), Takes (X.tr pn xe) W' → PassesOwn (model X.prog X.w) X.A X.env xe → PSs (X.tr pn xe) body (tSs Γ φ W' cb)) :
    PS X (.Try body (h₀ :: hds) [] [] pos) (tS Γ φ W (.tryM cb hs)) := by
  refine PS.of (ps_try_many hst hf tk hb (hds_ok hh)) fun D σ H ⟨F, ρ, ok, h⟩ => ⟨F, ρ, ok, ?_⟩
  rw [run] at h
  refine try_imp h fun x ρ' h σ' F' H' C d g xr => ?_
  obtain ⟨_, ec, _⟩ := id xr
  subst ec
  exact many_imp g xr hh h
end
end Pv

/-! Pt1: tapes: an own list whose first item is an own list; the inner one stands in a slot that no name has. -/
namespace Pv
open PySem PySem.Spec L2
open PyProof.Rows hiding St
section
variable {X : Cx} {pins : List (Addr × Obj)} {H : Hp} {s : Shared} {σ σ' : L2.St}
/-- slots that no name sees hold anything -/
theorem unseen (I : Inv X pins σ H s) (hl : σ'.length = σ.length) (h : ∀ (i : Nat) (x : Str) (v : V), X.N[i]? = some x → Vis X.env.scope x → σ'[i]? = some (some v) → σ[i]? = some (some v)) : Inv X pins σ' H s :=
  { I with
    loc := by
      obtain ⟨m, hn, hw⟩ := I.loc
      exact ⟨m, hn, fun i x v h1 h2 h3 => hw i x v h1 (h i x v h1 h3 h2) h3⟩
    len := hl.trans I.len }
theorem ghost {g : Nat} {x : Str} {o : Option V} (I : Inv X pins σ H s) (hg : X.N[g]? = some x) (hv : ¬ Vis X.env.scope x) : Inv X pins (σ.set g o) H s :=
  unseen I List.length_set fun i y v h1 h2 h3 => by
    have : g ≠ i := fun z => by
      subst z
      rw [hg] at h1
      cases h1
      exact hv h2
    rw [List.getElem?_set_ne this] at h3
    exact h3
theorem ps_ghost {st : Stmt} {t : TS} {g : Nat} {x : Str} (h : PS X st t) (hg : X.N[g]? = some x) (hv : ¬ Vis X.env.scope x) : PS X st (fun D σ H => t { D with nx := fun σ' H' => ∃ o, D.nx (σ'.set g o) H' } σ H) :=
  ⟨fun pins s σ H D I q => thn (h.run pins s σ H _ I q) fun f s' z => by
    cases f with
    | next =>
      obtain ⟨σ', H', I', o, q'⟩ := z
      exact ⟨_, H', ghost I' hg hv, q'⟩
    | brk => exact z
    | cont => exact z
    | ret v => exact z⟩
theorem pss_unseen {st : List Stmt} {t : TS} (h : PSs X st t) : PSs X st (fun D σ H => ∃ σ', σ'.length = σ.length ∧ (∀ (i : Nat) (x : Str) (v : V), X.N[i]? = some x → Vis X.env.scope x → σ'[i]? = some (some v) → σ[i]? = some (some v)) ∧ t D σ' H) :=
  ⟨fun pins s σ H D I ⟨σ', hl, hw, q⟩ => h.run pins s σ' H D (unseen I hl hw) q⟩
end
section
variable {K : PySem.W.Frag} {F H F0 H0 F' H' : Hp} {σ σ0 σ' : L2.St} {ρ ρ0 ρ' : Env}
theorem glL_way {c g : Nat} {ds : List D} (h : glL ρ c g = some ds) : ∃ (b : Nat) (o : Bool), ρ[c]? = some (.dat (.adr b)) ∧ ρ[g]? = some (if o then .own (.gl b ds) else .bor (.gl b ds)) ∧ ∀ es, putG ρ g es = ρ.set g (if o then .own (.gl b es) else .bor (.gl b es)) := by
  unfold glL at h
  split at h
  · rename_i b b' es q1 q2
    split at h
    · rename_i e
      cases h
      subst e
      exact ⟨b, true, q1, q2, fun es => by unfold putG; rw [q2]; rfl⟩
    · cases h
  · rename_i b b' es q1 q2
    split at h
    · rename_i e
      cases h
      subst e
      exact ⟨b, false, q1, q2, fun es => by unfold putG; rw [q2]; rfl⟩
    · cases h
  · cases h
theorem gl_at {c g : Nat} {ds : List D} (ok : Ok K F H σ ρ) (h : glL ρ c g = some ds) : ∃ (b : Addr) (xs : List V), σ[c]? = some (some (.ref b)) ∧ σ[g]? = some (some (.ref b)) ∧ H b = some (.lst xs) ∧ Reps K F ds xs ∧ Live ρ g := by
  obtain ⟨b, o, q1, q2, _⟩ := glL_way h
  obtain ⟨v, e1, r1⟩ := ok.dat c _ q1
  rw [Rep] at r1
  subst r1
  obtain ⟨a, e2, _, c2⟩ := ok.obj g (.gl b ds) (by cases o; exact .inr (.inl q2); exact .inl q2)
  obtain ⟨rfl, xs, eo, r⟩ := c2
  exact ⟨a, xs, e1, e2, eo, r, _, q2, by cases o <;> simp⟩
theorem putG_ok {c g : Nat} {b : Addr} {ds es : List D} {ys : List V} (ok : Ok K F H σ ρ) (h : glL ρ c g = some ds) (e : σ[g]? = some (some (.ref b))) (r : Reps K F es ys) : Go K F H σ ρ F (upd H b (.lst ys)) σ (putG ρ g es) := by
  obtain ⟨b', o, q1, q2, hp⟩ := glL_way h
  obtain ⟨a, e2, _, c2⟩ := ok.obj g (.gl b' ds) (by cases o; exact .inr (.inl q2); exact .inl q2)
  obtain ⟨ea, _⟩ := c2
  rw [e] at e2
  cases e2
  rw [hp]
  exact cont_ok ok q2 e ⟨ea, ys, rfl, r⟩
end
section
variable {X : Cx} {Γ : Gm} {φ : Phi} {W : WX} {e a b c k : Expr} {ce ca cb ck : E} {st : Stmt} {pos : Pos}
/-- a name that stands for the inner list -/
theorem px_ali {i g : Nat} {x : Str} (hN : X.N[i]? = some x) (hv : Vis X.env.scope x) (hd : (x == ("__debug__" : Str)) = false) (hcd : (x == ("__classdict__" : Str)) = false) : PE X (.Name x pos) (Tx Γ φ W (.ali i g)) := by
  refine PE.of (pe_var hN hv hd hcd) fun σ H Q h => ?_
  obtain ⟨F, ρ, ok, h⟩ := h
  rw [ev] at h
  cases q : glL ρ i g with
  | none => simp only [q] at h; exact h.elim
  | some ds =>
    simp only [q] at h
    obtain ⟨b, xs, e1, e2, _, _, lv⟩ := gl_at ok q
    exact ⟨_, e1, h _ F H (.refl ok) ⟨e2, lv⟩⟩
/-- [a, b], a a new list -/
theorem px_mkT (ha : PE X a (Tx Γ φ W ca)) (hb : PE X b (Tx Γ φ W cb)) (hs : starEach [a, b] X.env = (false, eval a X.env) :: starEach [b] X.env) (hs2 : starEach [b] X.env = (false, eval b X.env) :: starEach [] X.env) : PE X (.List [a, b] pos) (Tx Γ φ W (.mkT ca cb)) := by
  refine PE.of (pe_lst (pa_cons ha (pa_cons hb pa_nil hs2) hs)) fun σ H Q h => ?_
  obtain ⟨F, ρ, ok, h⟩ := h
  rw [ev] at h
  refine ⟨F, ρ, ok, Post.bnd h fun x ρ1 h v F1 H1 g1 r1 => ?_⟩
  cases x with
  | fr x =>
    cases x with
    | lst ds =>
      dsimp only at h
      refine ⟨F1, ρ1, g1.ok, Post.bnd (Post.from (rep1 := repA Γ σ H) h g1 fun _ _ _ _ _ z => z) fun y ρ2 h u F2 H2 g2 r2 => ?_⟩
      cases q2 : A.frz y ρ2 with
      | stuck => rw [q2] at h; exact h.elim
      | exc u ρ1 => exact (frz_exc q2).elim
      | ok sd ρ3 =>
      rw [q2] at h
      obtain ⟨F3, g3, rd⟩ := Go.frz g2 r2 q2
      have hl : (sizeLine : Nat) = 16777216 := sizeLine_eq
      refine ⟨by rw [hl]; show (2 : Nat) ≤ 16777216; decide, fun p hp => ?_⟩
      have x : Ext F3 H2 F3 (upd H2 p (.lst [v, u])) := .fresh g3.ok.le hp
      have gg := g3.trans (Ext.go g3.ok x)
      obtain ⟨l, e1, h0, f1, n1, ys, hc, rs⟩ := RepA.step r1 gg
      subst e1
      have h1p : H1 p = none := by
        cases z : H1 p with
        | none => rfl
        | some o => exact absurd hp (g3.pers p (by rw [z]; simp))
      obtain ⟨l2, e2, _, f2, n2, ys2, hc2, _⟩ := RepA.step r1 g3
      cases e2
      have lp : l ≠ p := fun z => by subst z; rw [hp] at hc2; cases hc2
      refine h _ _ _ gg ⟨p, l, ys, u, rfl, ?_, free_le g3.ok.le hp, fun z => (g3.ok.hld z).2 hp, upd_same, rd, h0, f1, n1, hc, rs, lp⟩
      cases z : H p with
      | none => rfl
      | some o => exact absurd h1p (g1.pers p (by rw [z]; simp))
    | _ => exact h.elim
  | _ => exact h.elim
/-- a tape is named: its inner list stands in slot g -/
theorem setG_way {ρ ρ' : Env} {g b : Nat} {ds : List D} (h : setG ρ g b ds = some ρ') : setW ρ g (.own (.gl b ds)) = some ρ' := by
  unfold setG at h
  unfold setW
  split at h
  · rename_i q
    rw [q]
    exact h
  · cases h
theorem setW_eq {ρ ρ' : Env} {i : Nat} {w : Pv.W} (h : setW ρ i w = some ρ') : ρ' = ρ.set i w ∧ i < ρ.length := by
  unfold setW at h
  split at h
  · cases h
  · cases h
  · rename_i q
    cases h
    exact ⟨rfl, (List.getElem?_eq_some_iff.mp q).1⟩
  · cases h
theorem s_tape {i g : Nat} {x y : Str} {pos' : Pos} (hN : X.N.Nodup) (hi : X.N[i]? = some x) (hx : Loc X.env.scope x) (he : PE X e (Tx Γ φ W ce)) (hs : swapsWith e (some (.Name x pos')) pos.line X.env = pure false) (hf : X.fn x = true ∨ X.env.scope.names.lookup x = some .local)
    (hg : X.N[g]? = some y) (hv : ¬ Vis X.env.scope y) : PS X (.Assign [.Name x pos'] e pos) (tS Γ φ W (.asgT i g ce)) := by
  refine PS.of (ps_ghost (ps_set hN hi hx he hs hf) hg hv) fun D σ H ⟨F, ρ, ok, h⟩ => ⟨F, ρ, ok, ?_⟩
  rw [run] at h
  refine PostS.bnd h fun a ρ1 h v F1 H1 g1 r => ?_
  cases a with
  | ft ds sd =>
    dsimp only at h
    obtain ⟨p, b, ys, u, rfl, h0, f1, n1, hc, rs, h0b, fb, nb, hb, rb, ne⟩ := r
    have h : PostS Γ F H σ ρ W (FR.of (R.of ((setW ρ1 i (.own (.lst [.adr b, sd]))).bind fun ρ => setG ρ g b ds) ρ1) fun ρ _ => .next ρ) D := h b
    cases q : setW ρ1 i (.own (.lst [.adr b, sd])) with
    | none => rw [q] at h; exact h.elim
    | some ρ2 =>
    rw [q] at h
    simp only [Option.bind_some] at h
    cases q2 : setG ρ2 g b ds with
    | none => rw [q2] at h; exact h.elim
    | some ρ3 =>
    rw [q2] at h
    have k1 := set_own g1 (d := .lst [.adr b, sd]) ⟨p, rfl, h0, f1, n1, [.ref b, u], hc, .cons (by rw [Rep]) (.one rs)⟩ q
    obtain ⟨e1, il⟩ := setW_eq q
    have nb2 : ¬ Hld (σ.set i (some (.ref p))) ρ2 b := fun ⟨j, ⟨d, hd⟩, ej⟩ => by
      by_cases hj : j = i
      · subst hj
        rw [List.getElem?_set_self (by rw [← g1.ok.len]; exact il)] at ej
        cases ej
        exact ne rfl
      · rw [List.getElem?_set_ne (Ne.symm hj)] at ej
        rw [e1, List.getElem?_set_ne (Ne.symm hj)] at hd
        exact nb ⟨j, ⟨d, hd⟩, ej⟩
    have k2 := set_own k1 (d := .gl b ds) ⟨b, rfl, h0b, fb, nb2, rfl, ys, hb, rb⟩ (setG_way q2)
    exact ⟨some (.ref b), h _ F1 H1 k2⟩
  | _ => exact h.elim
/-- cells[k] = e, cells a name of the inner list -/
theorem s_gset {i g : Nat} {x : Str} {p tpos : Pos} (hK : X.K = Γ.K) (ho : PE X (.Name x p) (Tx Γ φ W (.ali i g))) (hk : PE X k (Tx Γ φ W ck)) (he : PE X e (Tx Γ φ W ce))
    (hsub : ∀ v, assign (.Subscript (.Name x p) k tpos) X.env v = (do
      let ov ← holding [v] (eval (.Name x p) X.env)
      let iv ← holding [v, ov] (eval k X.env)
      standAt tpos
      holding [v, ov, iv] (setItem ov iv v)
      release [v, ov, iv] []))
    (hs : swapsWithSole [.Subscript (.Name x p) k tpos] e pos.line X.env = pure false) (hw : swappedStores [.Subscript (.Name x p) k tpos] e X.env = pure none) (h1 : (assignEach [.Subscript (.Name x p) k tpos] X.env).map (·.2) = [assign (.Subscript (.Name x p) k tpos) X.env]) :
    PS X (.Assign [.Subscript (.Name x p) k tpos] e pos) (tS Γ φ W (.gset i g ck ce)) := by
  refine PS.of (ps_asg he (pg_sub ho hk set_list hsub) hs hw h1) fun D σ H ⟨F, ρ, ok, h⟩ => ⟨F, ρ, ok, ?_⟩
  rw [run] at h
  refine PostS.bnd h fun y ρ1 h u F1 H1 g1 r1 => ?_
  cases q2 : A.frz y ρ1 with
  | stuck => rw [q2] at h; exact h.elim
  | exc u ρ1 => exact (frz_exc q2).elim
  | ok d ρ2 =>
  rw [q2] at h
  simp only [FR.of_ok] at h
  obtain ⟨F2, g2, rd⟩ := Go.frz g1 r1 q2
  cases q : glL ρ2 i g with
  | none => rw [q] at h; exact h.elim
  | some ds =>
  rw [q] at h
  dsimp only at h
  refine ⟨F2, ρ2, g2.ok, ?_⟩
  rw [ev, q]
  intro v F3 H3 g3 r3
  obtain ⟨b, xs, e1, e2, hb, rb, _⟩ := gl_at g3.ok q
  obtain ⟨e3, _⟩ := r3
  rw [e2] at e3
  cases e3
  refine ⟨F3, ρ2, g3.ok, ?_⟩
  refine PostS.bnd (PostS.from h (g2.trans g3)) fun z ρ3 h w F4 H4 g4 r4 => ?_
  split at h
  · rename_i n es q4
    obtain ⟨b', ys, e1', e2', hb', rb', _⟩ := gl_at g4.ok q4
    rw [e2] at e2'
    cases e2'
    have r4' : Rep Γ.K F4 (.int n) w := r4
    rw [Rep] at r4'
    subst r4'
    split at h
    · rename_i j qj
      refine ⟨b, ys, n, j, rfl, rfl, hb', by rw [← rb'.length]; exact qj, ?_⟩
      exact h σ F4 _ (g4.trans (putG_ok g4.ok q4 e2 (Reps.set (Rep.mono (g3.trans g4).grow _ _ rd) j rb')))
    · exact h.elim
  · exact h.elim
/-- cells.pop(0) -/
theorem s_gpop {i g : Nat} {x : Str} {p apos cpos cp : Pos} {kk : Nat} (ho : PE X (.Name x p) (Tx Γ φ W (.ali i g))) (hbase : attributeBase (.Name x p) "pop" X.env (eval (.Name x p) X.env) = eval (.Name x p) X.env)
    (hline : (apos.endLine == cpos.line) = true) (hs : starEach [Expr.Constant (.int 0) kk cp] X.env = (false, eval (Expr.Constant (.int 0) kk cp) X.env) :: starEach [] X.env) (hw : swapsWith (.Call (.Attribute (.Name x p) "pop" apos) [.Constant (.int 0) kk cp] [] cpos) none pos.line X.env = pure false) :
    PS X (.Expr (.Call (.Attribute (.Name x p) "pop" apos) [.Constant (.int 0) kk cp] [] cpos) pos) (tS Γ φ W (.gpop i g)) := by
  refine PS.of (ps_expr (pe_bm F.plainAttrs_list F.slot_list_pop PySem.F.type_list_pop mt_popAt ho (pa_cons pe_int pa_nil hs) hbase (by rw [hs]; rfl) hline hs rfl) hw) fun D σ H ⟨F, ρ, ok, h⟩ => ?_
  rw [run] at h
  cases q : glL ρ i g with
  | none => simp only [q] at h; exact h.elim
  | some ds =>
  simp only [q] at h
  cases ds with
  | nil => exact h.elim
  | cons d ds =>
  refine ⟨F, ρ, ok, ?_⟩
  rw [ev, q]
  intro v F1 H1 g1 r1
  obtain ⟨b, xs, e1, e2, hb, rb, _⟩ := gl_at g1.ok q
  obtain ⟨e3, _⟩ := r1
  rw [e2] at e3
  cases e3
  refine ⟨.inl ⟨rfl, xs, .inl (.inl hb)⟩, ?_⟩
  cases xs with
  | nil => have := rb.length; cases this
  | cons y ys =>
  refine ⟨b, y :: ys, 0, 0, y, rfl, rfl, hb, by decide, by decide, by simp [seqIndex?], rfl, ?_⟩
  exact h σ F1 _ (g1.trans (putG_ok g1.ok q e2 (Reps.drop 1 rb)))
end
end Pv

/-! Pt2: several names stored at once. -/
namespace Pv
open PySem PySem.Spec L2
open PyProof.Rows hiding St
/-- no new object of these is the one at b -/
def Off (b : Addr) (as : List A) (xs : List V) : Prop := ∀ (j : Nat) (d : D), as[j]? = some (.fr d) → xs[j]? ≠ some (.ref b)
def RepM (K : PySem.W.Frag) (H0 F H : Hp) (σ : L2.St) (ρ : Env) : List A → List V → Prop
  | [], xs => xs = []
  | a :: as, xs => ∃ x r, xs = x :: r ∧ RepA K H0 F H σ ρ a x ∧ (∀ b, x = .ref b → (∃ d, a = .fr d) → Off b as r) ∧ ((∃ d, a = .d d) ∨ ∃ d, a = .fr d) ∧ RepM K H0 F H σ ρ as r
def mset : List Nat → List V → L2.St → L2.St
  | i :: is, v :: vs, σ => mset is vs (σ.set i (some v))
  | _, _, σ => σ
section
variable {K : PySem.W.Frag} {F H F0 H0 H1 F' H' : Hp} {σ σ0 σ' : L2.St} {ρ ρ0 ρ' : Env}
theorem RepM.map {H2 F2 H3 : Hp} {σ2 : L2.St} {ρ2 : Env} : ∀ {as : List A} {xs : List V}, (∀ (a : A) (x : V), (∃ j : Nat, as[j]? = some a ∧ xs[j]? = some x) → ((∃ d, a = .d d) ∨ ∃ d, a = .fr d) → RepA K H0 F H σ ρ a x → RepA K H2 F2 H3 σ2 ρ2 a x) → RepM K H0 F H σ ρ as xs → RepM K H2 F2 H3 σ2 ρ2 as xs
  | [], xs, f, r => r
  | a :: as, xs, f, ⟨x, r, e, h1, h2, h3, h4⟩ => ⟨x, r, e, f a x ⟨0, rfl, by rw [e]; rfl⟩ h3 h1, h2, h3, RepM.map (fun a' x' ⟨j, e1, e2⟩ => f a' x' ⟨j + 1, e1, by rw [e]; exact e2⟩) h4⟩
theorem RepM.fresh : ∀ {as : List A} {xs : List V} {j : Nat} {d : D} {b : Addr}, RepM K H0 F H σ ρ as xs → as[j]? = some (.fr d) → xs[j]? = some (.ref b) → H0 b = none
  | [], _, _, _, _, _, h, _ => by simp at h
  | a :: as, xs, 0, d, b, ⟨x, r, e, h1, _⟩, ha, hx => by
    subst e
    simp at ha hx
    subst ha
    subst hx
    obtain ⟨b', e, h0, _⟩ := h1
    cases e
    exact h0
  | a :: as, xs, j + 1, d, b, ⟨x, r, e, _, _, _, h4⟩, ha, hx => by
    subst e
    exact RepM.fresh h4 (by simpa using ha) (by simpa using hx)
theorem mset_ok : ∀ {is : List Nat} {as : List A} {xs : List V} {σ : L2.St} {ρ ρ' : Env}, Go K F0 H0 σ0 ρ0 F H σ ρ → RepM K H0 F H σ ρ as xs → asgs is as ρ = some ρ' → Go K F0 H0 σ0 ρ0 F H (mset is xs σ) ρ'
  | [], [], xs, σ, ρ, ρ', g, r, h => by
    cases h
    exact g
  | [], _ :: _, _, _, _, _, _, _, h => by cases h
  | _ :: _, [], _, _, _, _, _, _, h => by cases h
  | i :: is, a :: as, xs, σ, ρ, ρ', g, ⟨x, r, e, h1, h2, h3, h4⟩, h => by
    subst e
    show Go K F0 H0 σ0 ρ0 F H (mset is r (σ.set i (some x))) ρ'
    have key : ∀ {w : Pv.W} {ρ1 : Env}, setW ρ i w = some ρ1 → Go K F0 H0 σ0 ρ0 F H (σ.set i (some x)) ρ1 → (∀ b, x = .ref b → (∃ d, w = .own d ∨ w = .bor d ∨ w = .lck d) → Off b as r) → RepM K H0 F H (σ.set i (some x)) ρ1 as r := fun {w ρ1} hs g1 ho => by
      refine RepM.map (fun a' x' ⟨j, e1, e2⟩ np ra => ?_) h4
      cases a' with
      | d y => exact ra
      | pl y => rcases np with ⟨d, z⟩ | ⟨d, z⟩ <;> cases z
      | fr y =>
        obtain ⟨b, eb, b0, fb, nb, cb⟩ := ra
        subst eb
        obtain ⟨er, il⟩ := setW_eq hs
        refine ⟨b, rfl, b0, fb, fun ⟨l, ⟨d, hd⟩, el⟩ => ?_, cb⟩
        by_cases hl : l = i
        · subst hl
          rw [List.getElem?_set_self (by rw [← g.ok.len]; exact il)] at el
          rw [er, List.getElem?_set_self il] at hd
          have ex : x = .ref b := Option.some.inj (Option.some.inj el)
          refine ho b ex ⟨d, ?_⟩ j y e1 e2
          rcases hd with z | z | z
          · exact .inl (Option.some.inj z)
          · exact .inr (.inl (Option.some.inj z))
          · exact .inr (.inr (Option.some.inj z))
        · rw [List.getElem?_set_ne (Ne.symm hl)] at el
          rw [er, List.getElem?_set_ne (Ne.symm hl)] at hd
          exact nb ⟨l, ⟨d, hd⟩, el⟩
      | ft ds sd => rcases np with ⟨d, z⟩ | ⟨d, z⟩ <;> cases z
    cases a with
    | d y =>
      obtain ⟨ρ1, e1, e2⟩ := Option.bind_eq_some_iff.mp (show (setW ρ i (.dat y)).bind (asgs is as) = some ρ' from h)
      have g1 := set_dat g h1 e1
      exact mset_ok g1 (key e1 g1 fun b _ ⟨d, z⟩ => by rcases z with z | z | z <;> cases z) e2
    | fr y =>
      obtain ⟨ρ1, e1, e2⟩ := Option.bind_eq_some_iff.mp (show (setW ρ i (.own y)).bind (asgs is as) = some ρ' from h)
      have g1 := set_own g h1 e1
      exact mset_ok g1 (key e1 g1 fun b eb _ => h2 b eb ⟨y, rfl⟩) e2
    | pl y => rcases h3 with ⟨d, z⟩ | ⟨d, z⟩ <;> cases z
    | ft ds sd => cases h
end
def Tm (Γ : Gm) (φ : Phi) (W : WX) (c : Es) : TA := fun σ H Q => ∃ F ρ, Ok Γ.K F H σ ρ ∧ Post Γ F H σ ρ W (evM φ c ρ) (fun F' H' ρ' as xs => RepM Γ.K H F' H' σ ρ' as xs) Q
section
variable {X : Cx} {Γ : Gm} {φ : Phi} {W : WX} {e a b c : Expr} {es : List Expr} {ces : Es} {ce ca cb : E} {pos : Pos}
theorem thaw_ok {K : PySem.W.Frag} {F0 H0 F H : Hp} {σ0 σ : L2.St} {ρ0 ρ ρ' : Env} {α β : A} {v : V} (g : Go K F0 H0 σ0 ρ0 F H σ ρ) (r : RepA K H0 F H σ ρ α v) (h : thaw α ρ = .ok β ρ') :
    ∃ F', Go K F0 H0 σ0 ρ0 F' H σ ρ' ∧ RepA K H0 F' H σ ρ' β v ∧ ((∃ d, β = .d d) ∨ ∃ d, β = .fr d) := by
  have key : ∀ {α : A}, RepA K H0 F H σ ρ α v → (A.frz α ρ).bind (fun d ρ => .ok (.d d) ρ) = .ok β ρ' → ∃ F', Go K F0 H0 σ0 ρ0 F' H σ ρ' ∧ RepA K H0 F' H σ ρ' β v ∧ ((∃ d, β = .d d) ∨ ∃ d, β = .fr d) := fun {α} r h => by
    obtain ⟨d, ρ1, h1, h2⟩ := R.bind_inv h
    cases h2
    obtain ⟨F', g', p⟩ := Go.frz g r h1
    exact ⟨F', g', p, .inl ⟨d, rfl⟩⟩
  cases α with
  | fr x => cases h; exact ⟨F, g, r, .inr ⟨x, rfl⟩⟩
  | d x => exact key r h
  | pl x => exact key r h
  | ft x y => exact key r h
theorem thaw_exc {α : A} {ρ ρ' : Env} {x : Ex} (h : thaw α ρ = .exc x ρ') : False := by
  have key : ∀ {α : A}, (A.frz α ρ).bind (fun d ρ => .ok (A.d d) ρ) = .exc x ρ' → False := fun {α} h => by
    cases q : A.frz α ρ with
    | ok y ρ3 => rw [q] at h; cases h
    | exc y ρ3 => exact frz_exc q
    | stuck => rw [q] at h; cases h
  cases α with
  | fr x => cases h
  | d x => cases h
  | pl x => exact key h
  | ft x y => cases h
theorem pm_nil : PA X [] (Tm Γ φ W .nil) := by
  refine PA.of pa_nil fun σ H Q h => ?_
  obtain ⟨F, ρ, ok, h⟩ := h
  rw [evM] at h
  exact h _ F H (.refl ok) rfl
theorem pm_cons {m : Bool} (he : PE X e (Tx Γ φ W ce)) (hr : PA X es (Tm Γ φ W ces)) (hs : starEach (e :: es) X.env = (false, eval e X.env) :: starEach es X.env) : PA X (e :: es) (Tm Γ φ W (.cons m ce ces)) := by
  refine PA.of (pa_cons he hr hs) fun σ H Q h => ?_
  obtain ⟨F, ρ, ok, h⟩ := h
  rw [evM] at h
  refine ⟨F, ρ, ok, Post.bnd h fun x ρ1 h v F1 H1 g1 r1 => ?_⟩
  cases q : thaw x ρ1 with
  | stuck => rw [q] at h; exact h.elim
  | exc y ρ' => exact (thaw_exc q).elim
  | ok β ρ2 =>
  rw [q] at h
  obtain ⟨F2, g2, r2, hβ⟩ := thaw_ok g1 r1 q
  refine ⟨F2, ρ2, g2.ok, Post.bnd (Post.from h g2 fun _ _ _ _ _ z => z) fun as ρ3 h xs F3 H3 g3 r3 => ?_⟩
  refine h (v :: xs) F3 H3 g3 ⟨v, xs, rfl, RepA.step r2 g3, fun b eb _ j d ha hx => ?_, hβ, RepM.map (fun a x _ _ ra => RepA.back g2 ra) r3⟩
  have h0 := RepM.fresh r3 ha hx
  subst eb
  rename_i hd
  obtain ⟨y, ey⟩ := hd
  subst ey
  obtain ⟨b', e', _, _, _, cb⟩ := r2
  cases e'
  exact cb.some_ h0
theorem asgs_len : ∀ {is : List Nat} {as : List A} {ρ ρ' : Env}, asgs is as ρ = some ρ' → as.length = is.length
  | [], [], _, _, _ => rfl
  | [], _ :: _, _, _, h => by cases h
  | _ :: _, [], _, _, h => by cases h
  | i :: is, .d x :: as, ρ, ρ', h => by
    obtain ⟨ρ1, _, e⟩ := Option.bind_eq_some_iff.mp (show (setW ρ i (.dat x)).bind (asgs is as) = some ρ' from h)
    simp [asgs_len e]
  | i :: is, .fr x :: as, ρ, ρ', h => by
    obtain ⟨ρ1, _, e⟩ := Option.bind_eq_some_iff.mp (show (setW ρ i (.own x)).bind (asgs is as) = some ρ' from h)
    simp [asgs_len e]
  | i :: is, .pl x :: as, ρ, ρ', h => by cases h
  | i :: is, .ft x y :: as, ρ, ρ', h => by cases h
theorem RepM.length {K : PySem.W.Frag} {F H H0 : Hp} {σ : L2.St} {ρ : Env} : ∀ {as : List A} {xs : List V}, RepM K H0 F H σ ρ as xs → xs.length = as.length
  | [], xs, r => by
    have : xs = [] := r
    rw [this]; rfl
  | a :: as, xs, ⟨x, r, e, _, _, _, h⟩ => by rw [e]; simp [h.length]
theorem mpar_imp {is : List Nat} {D : Ends} {σ : L2.St} {H : Hp} (h : tS Γ φ W (.mpar is ces) D σ H) : Tm Γ φ W ces σ H fun xs H1 => ∃ F ρ F1 ρ1 ρ2 as, Go Γ.K F H σ ρ F1 H1 σ ρ1 ∧ RepM Γ.K H F1 H1 σ ρ1 as xs ∧ asgs is as ρ1 = some ρ2 ∧ xs.length = is.length ∧ ∀ σ' F' H', Go Γ.K F H σ ρ F' H' σ' ρ2 → D.nx σ' H' := by
  obtain ⟨F, ρ, ok, h⟩ := h
  refine ⟨F, ρ, ok, ?_⟩
  rw [run] at h
  refine PostS.bnd h fun as ρ1 h xs F1 H1 g r => ?_
  cases q : asgs is as ρ1 with
  | none => rw [q] at h; exact h.elim
  | some ρ2 =>
    rw [q] at h
    exact ⟨F, ρ, F1, ρ1, ρ2, as, g, r, q, by rw [r.length, asgs_len q], h⟩
theorem PA.imp {X : Cx} {es : List Expr} {t t' : TA} (h : PA X es t) (i : ∀ σ H Q, t' σ H Q → t σ H Q) : PA X es t' := PA.of h i
theorem Tm.to {σ : L2.St} {H : Hp} {Q R : List V → Hp → Prop} (h : Tm Γ φ W ces σ H Q) (k : ∀ xs H1, Q xs H1 → R xs H1) : Tm Γ φ W ces σ H R := by
  obtain ⟨F, ρ, ok, h⟩ := h
  refine ⟨F, ρ, ok, ?_⟩
  generalize evM φ ces ρ = r at h
  cases r with
  | ok a ρ' => exact fun b F' H' g r => k _ _ (h b F' H' g r)
  | exc x ρ' => exact h
  | stuck => exact h
theorem s_mpar2 {i j : Nat} {x y : Str} {px py pt : Pos} {kt k2 pt2} (hc : X.calm = true) (hN : X.N.Nodup) (hi : X.N[i]? = some x) (hj : X.N[j]? = some y) (hij : i ≠ j)
    (hx : X.env.scope.names.lookup x = some .local) (hy : X.env.scope.names.lookup y = some .local) (ha : PA X [a, b] (Tm Γ φ W ces))
    (hw : swappedStores [.Tuple [.Name x px, .Name y py] kt pt] (.Tuple [a, b] k2 pt2) X.env = pure (some [x, y]))
    (hs : swapsWithSole [.Tuple [.Name x px, .Name y py] kt pt] (.Tuple [a, b] k2 pt2) pos.line X.env = pure false) :
    PS X (.Assign [.Tuple [.Name x px, .Name y py] kt pt] (.Tuple [a, b] k2 pt2) pos) (tS Γ φ W (.mpar [i, j] ces)) := by
  refine PS.of (ps_par hc hN hi hj hij hx hy ha hw hs) fun D σ H h => (mpar_imp h).to fun xs H1 h => ?_
  obtain ⟨F, ρ, F1, ρ1, ρ2, as, g, r, e, hl, k⟩ := h
  match xs, hl with
  | [v, w], _ => exact ⟨v, w, rfl, k _ _ _ (mset_ok g r e)⟩
theorem s_mpar3 {i j l : Nat} {x y z : Str} {px py pz pt : Pos} {kt k2 pt2} (hc : X.calm = true) (hN : X.N.Nodup) (hi : X.N[i]? = some x) (hj : X.N[j]? = some y) (hl : X.N[l]? = some z) (hij : i ≠ j) (hil : i ≠ l) (hjl : j ≠ l)
    (hx : X.env.scope.names.lookup x = some .local) (hy : X.env.scope.names.lookup y = some .local) (hz : X.env.scope.names.lookup z = some .local) (ha : PA X [a, b, c] (Tm Γ φ W ces))
    (hw : swappedStores [.Tuple [.Name x px, .Name y py, .Name z pz] kt pt] (.Tuple [a, b, c] k2 pt2) X.env = pure (some [x, y, z]))
    (hs : swapsWithSole [.Tuple [.Name x px, .Name y py, .Name z pz] kt pt] (.Tuple [a, b, c] k2 pt2) pos.line X.env = pure false) :
    PS X (.Assign [.Tuple [.Name x px, .Name y py, .Name z pz] kt pt] (.Tuple [a, b, c] k2 pt2) pos) (tS Γ φ W (.mpar [i, j, l] ces)) := by
  refine PS.of (ps_par3 hc hN hi hj hl hij hil hjl hx hy hz ha hw hs) fun D σ H h => (mpar_imp h).to fun xs H1 h => ?_
  obtain ⟨F, ρ, F1, ρ1, ρ2, as, g, r, e, hl, k⟩ := h
  match xs, hl with
  | [u, v, w], _ => exact ⟨u, v, w, rfl, k _ _ _ (mset_ok g r e)⟩
def gNs : List Nat → TGs
  | [] => gNil
  | i :: is => gCons (gName i) (gNs is)
theorem gNs_set {Q : L2.St → Hp → Prop} {H : Hp} : ∀ {is : List Nat} {xs : List V} {σ : L2.St}, xs.length = is.length → Q (mset is xs σ) H → gNs is xs σ H Q
  | [], [], σ, _, h => ⟨rfl, h⟩
  | [], _ :: _, _, h, _ => by cases h
  | _ :: _, [], _, h, _ => by cases h
  | i :: is, x :: xs, σ, hl, h => ⟨x, xs, rfl, gNs_set (is := is) (by simpa using hl) h⟩
/-- by a tuple that is taken apart -/
theorem s_mparT {is : List Nat} {tes : List Expr} {k k2 : Nat} {p p2 : Pos} (hK : X.K = Γ.K) (hc : X.calm = true) (ha : PA X es (Tm Γ φ W ces)) (hg : PGs X tes (gNs is)) (hl : is.length ≤ 1000) (hn : (assignEach tes X.env).length = is.length) (hst : (assignEach tes X.env).findIdx? (·.1) = none)
    (hs : swapsWithSole [.Tuple tes k p] (.Tuple es k2 p2) pos.line X.env = pure false) (hw : swappedStores [.Tuple tes k p] (.Tuple es k2 p2) X.env = pure none) (h1 : (assignEach [.Tuple tes k p] X.env).map (·.2) = [assign (.Tuple tes k p) X.env]) :
    PS X (.Assign [.Tuple tes k p] (.Tuple es k2 p2) pos) (tS Γ φ W (.mpar is ces)) := by
  refine PS.of (ps_asg (pe_tup ha) (pg_tup hc hg hn hst) hs hw h1) fun D σ H h => (mpar_imp h).to fun xs H1 h => ?_
  obtain ⟨F, ρ, F1, ρ1, ρ2, as, g, r, e, hle, k⟩ := h
  have hl2 : (sizeLine : Nat) = 16777216 := sizeLine_eq
  refine ⟨by rw [hle, hl2]; omega, fun q hq => ⟨q, xs, rfl, .inl (.inl upd_same), hle, gNs_set hle ?_⟩⟩
  have x : Ext F1 H1 F1 (upd H1 q (.tup xs)) := .fresh g.ok.le hq
  have gx := Ext.go g.ok x
  exact k _ _ _ (mset_ok (g.trans gx) (RepM.map (fun a x _ _ ra => RepA.step ra gx) r) e)
end
end Pv

/-! Pt3: zip, enumerate, a range of three. -/
namespace Pv
open PySem PySem.Spec L2
open PyProof.Rows hiding St
open RZ
section
variable {K : PySem.W.Frag} {F H : Hp}
theorem zip_at {xs ys : List D} {i : Nat} {d : D} (h : (List.zipWith (fun a b => D.tup [a, b]) xs ys)[i]? = some d) : ∃ a b, d = .tup [a, b] ∧ xs[i]? = some a ∧ ys[i]? = some b := by
  rw [List.getElem?_zipWith] at h
  cases h1 : xs[i]? with
  | none => rw [h1] at h; cases h
  | some a =>
    cases h2 : ys[i]? with
    | none => rw [h1, h2] at h; cases h
    | some b => rw [h1, h2] at h; cases h; exact ⟨a, b, rfl, rfl, rfl⟩
theorem pair_new {T : Addr} {x y : V} {a b : D} (le : Same F H) (hT : H T = none) (p : Rep K F a x) (q : Rep K F b y) : ∃ F2, Ext F H F2 (upd H T (.tup [x, y])) ∧ Rep K F2 (.tup [a, b]) (.ref T) :=
  ⟨_, .frozen (o := .tup [x, y]) le hT, Rep.tup_ upd_same (.cons (Rep.mono (Same.upd_new (free_le le hT)) _ _ p) (.one (Rep.mono (Same.upd_new (free_le le hT)) _ _ q)))⟩
theorem walk_zl {a b : Addr} {xs ys : List V} {ds es : List D} (le : Same F H) (s : SqL K H a xs) (t : SqL K H b ys) (r : Reps K F ds xs) (q : Reps K F es ys) : WalkAt K F H (List.zipWith (fun a b => D.tup [a, b]) ds es) (Itz K a b) := by
  refine ⟨fun i hi => ?_, fun i d x H2 hd hy => ?_, fun i hi => ⟨xs, ys, s, t, ?_⟩⟩
  · obtain ⟨u, v, _, h1, h2⟩ := zip_at (List.getElem?_eq_getElem hi)
    obtain ⟨x, e1, _⟩ := r.get h1
    obtain ⟨y, e2, _⟩ := q.get h2
    exact ⟨xs, ys, x, y, s, t, e1, e2⟩
  · obtain ⟨T, x', y', rfl, hT, rfl, hx, hy⟩ := hy
    obtain ⟨u, v, rfl, h1, h2⟩ := zip_at hd
    obtain ⟨x1, e1, p1⟩ := r.get h1
    obtain ⟨y1, e2, p2⟩ := q.get h2
    rw [hx xs s] at e1
    rw [hy ys t] at e2
    cases e1
    cases e2
    exact pair_new le hT p1 p2
  · rw [List.length_zipWith] at hi
    rw [← r.length, ← q.length]
    omega
theorem walk_zt {a b : Addr} {xs ys : List V} {ds es : List D} (le : Same F H) (s : SqT K H a xs) (t : SqT K H b ys) (r : Reps K F ds xs) (q : Reps K F es ys) : WalkAt K F H (List.zipWith (fun a b => D.tup [a, b]) ds es) (ItzT K a b) := by
  refine ⟨fun i hi => ?_, fun i d x H2 hd hy => ?_, fun i hi => ⟨xs, ys, s, t, ?_⟩⟩
  · obtain ⟨u, v, _, h1, h2⟩ := zip_at (List.getElem?_eq_getElem hi)
    obtain ⟨x, e1, _⟩ := r.get h1
    obtain ⟨y, e2, _⟩ := q.get h2
    exact ⟨xs, ys, x, y, s, t, e1, e2⟩
  · obtain ⟨T, x', y', rfl, hT, rfl, hx, hy⟩ := hy
    obtain ⟨u, v, rfl, h1, h2⟩ := zip_at hd
    obtain ⟨x1, e1, p1⟩ := r.get h1
    obtain ⟨y1, e2, p2⟩ := q.get h2
    rw [hx xs s] at e1
    rw [hy ys t] at e2
    cases e1
    cases e2
    exact pair_new le hT p1 p2
  · rw [List.length_zipWith] at hi
    rw [← r.length, ← q.length]
    omega
theorem enum_len : ∀ (n : Nat) (xs : List D), (enumL n xs).length = xs.length
  | _, [] => rfl
  | n, x :: xs => by rw [enumL, List.length_cons, List.length_cons, enum_len]
theorem enum_at : ∀ {n : Nat} {xs : List D} {i : Nat} {d : D}, (enumL n xs)[i]? = some d → ∃ a, d = .tup [.int ((n + i : Nat) : Int), a] ∧ xs[i]? = some a
  | n, [], i, d, h => by simp [enumL] at h
  | n, x :: xs, 0, d, h => by
    rw [enumL] at h
    simp at h
    exact ⟨x, by rw [← h]; rfl, rfl⟩
  | n, x :: xs, i + 1, d, h => by
    rw [enumL] at h
    obtain ⟨a, e, q⟩ := enum_at (n := n + 1) (xs := xs) (i := i) (by simpa using h)
    exact ⟨a, by rw [e, show n + 1 + i = n + (i + 1) by omega], by simpa using q⟩
theorem walk_en {a : Addr} {xs : List V} {ds : List D} (le : Same F H) (s : SqL K H a xs) (r : Reps K F ds xs) : WalkAt K F H (enumL 0 ds) (Ite K a) := by
  refine ⟨fun i hi => ?_, fun i d x H2 hd hy => ?_, fun i hi => ⟨xs, s, ?_⟩⟩
  · rw [enum_len] at hi
    obtain ⟨x, e, _⟩ := r.get (List.getElem?_eq_getElem hi)
    exact ⟨xs, x, s, e⟩
  · obtain ⟨T, x', rfl, hT, rfl, hx⟩ := hy
    obtain ⟨u, rfl, h1⟩ := enum_at hd
    obtain ⟨x1, e1, p1⟩ := r.get h1
    rw [hx xs s] at e1
    cases e1
    rw [Nat.zero_add]
    exact pair_new le hT Rep.int_ p1
  · rw [enum_len] at hi
    rw [← r.length]
    exact hi
theorem walk_c {i j c : Int} (le : Same F H) : WalkAt K F H (rng3D i j c) (Itc i c (Builtin.Range.rangeSize i j c).toNat) := by
  have hl : (rng3D i j c).length = (Builtin.Range.rangeSize i j c).toNat := by
    unfold rng3D
    rw [List.length_map, List.length_range]
  refine ⟨fun k hk => ?_, fun k d x H2 hd hy => ?_, fun k hk => ?_⟩
  · rw [hl] at hk; exact hk
  · obtain ⟨rfl, rfl⟩ := hy
    unfold rng3D at hd
    rw [List.getElem?_map] at hd
    obtain ⟨n, hn, e⟩ := Option.map_eq_some_iff.mp hd
    have hk : k < (List.range (Builtin.Range.rangeSize i j c).toNat).length := (List.getElem?_eq_some_iff.mp hn).1
    rw [List.length_range] at hk
    rw [List.getElem?_range hk] at hn
    cases hn
    subst e
    exact ⟨F, .refl le, .int_⟩
  · rw [hl] at hk; exact hk
end
section
variable {X : Cx} {Γ : Gm} {φ : Phi} {W : WX} {a b c e tg : Expr} {ca cb cc ce : E} {pos p tpos : Pos} {elts : List Expr} {kk : Nat}
theorem pi_zip_ (hK : X.K = Γ.K) (hg : Gl X "zip") (hm : X.mg "zip" = none) (ha : PE X a (Tx Γ φ W ca)) (hb : PE X b (Tx Γ φ W cb)) (hs : starEach [a, b] X.env = (false, eval a X.env) :: starEach [b] X.env) (hs2 : starEach [b] X.env = (false, eval b X.env) :: starEach [] X.env) :
    PI X (.Tuple elts kk tpos) (.Call (.Name "zip" p) [a, b] [] pos) (Ti Γ φ W (.zip ca cb)) := by
  refine PI.of (pi_zipA hg hm (ps_cons (m := false) ha (ps_cons (m := false) hb ps_nil hs2) hs) hs (by rw [hs2]; rfl)) fun σ H RR h => ?_
  obtain ⟨F, ρ, ok, h⟩ := h
  rw [evI] at h
  refine ⟨F, ρ, ok, ?_⟩
  rw [evs]
  cases q1 : ev φ ca ρ with
  | stuck => rw [q1] at h; exact h.elim
  | exc u ρ1 => rw [q1] at h; exact h
  | ok x ρ1 =>
  rw [q1] at h
  simp only [R.bind_ok] at h ⊢
  cases q2 : A.frz x ρ1 with
  | stuck => rw [q2] at h; exact h.elim
  | exc u ρ1 => exact (frz_exc q2).elim
  | ok d ρ2 =>
  rw [q2] at h
  simp only [R.bind_ok] at h ⊢
  rw [evs]
  cases q3 : ev φ cb ρ2 with
  | stuck => rw [q3] at h; exact h.elim
  | exc u ρ1 => rw [q3] at h; exact h
  | ok y ρ3 =>
  rw [q3] at h
  simp only [R.bind_ok] at h ⊢
  cases q4 : A.frz y ρ3 with
  | stuck => rw [q4] at h; exact h.elim
  | exc u ρ1 => exact (frz_exc q4).elim
  | ok e ρ4 =>
  rw [q4] at h
  simp only [R.bind_ok] at h ⊢
  rw [evs]
  simp only [R.bind_ok]
  intro vs F1 H1 g r
  obtain ⟨p, e0, h⟩ := h.opt
  obtain ⟨l, e1, rfl⟩ := Option.map_eq_some_iff.mp e0
  rw [Reps] at r
  obtain ⟨v, r', rfl, rv, r⟩ := r
  rw [Reps] at r
  obtain ⟨w, r'', rfl, rw', r⟩ := r
  rw [Reps] at r
  subst r
  rw [hK]
  unfold zipD at e1
  split at e1
  · cases e1
    rw [Rep] at rv rw'
    obtain ⟨a1, xs, rfl, s1, p1⟩ := rv
    obtain ⟨a2, ys, rfl, s2, p2⟩ := rw'
    exact ⟨a1, a2, xs, ys, rfl, .inl ⟨.inl (Same.rd g.ok.le s1), .inl (Same.rd g.ok.le s2), h _ F1 H1 g ⟨none, (fun _ _ z => by cases z), fun F' H' gr le' _ => walk_zl le' (.inl (Same.rd le' (Same.rd gr s1))) (.inl (Same.rd le' (Same.rd gr s2))) (p1.mono gr) (p2.mono gr)⟩⟩⟩
  · cases e1
    rw [Rep] at rv rw'
    obtain ⟨a1, xs, rfl, s1, p1⟩ := rv
    obtain ⟨a2, ys, rfl, s2, p2⟩ := rw'
    exact ⟨a1, a2, xs, ys, rfl, .inr ⟨Same.sqT g.ok.le s1, Same.sqT g.ok.le s2, h _ F1 H1 g ⟨none, (fun _ _ z => by cases z), fun F' H' gr le' _ => walk_zt le' (Same.sqT le' (Same.sqT gr s1)) (Same.sqT le' (Same.sqT gr s2)) (p1.mono gr) (p2.mono gr)⟩⟩⟩
  · cases e1
theorem pi_enm_ (hK : X.K = Γ.K) (hg : Gl X "enumerate") (hm : X.mg "enumerate" = none) (ha : PE X a (Tx Γ φ W ca)) (hs : starEach [a] X.env = [(false, eval a X.env)]) :
    PI X (.Tuple elts kk tpos) (.Call (.Name "enumerate" p) [a] [] pos) (Ti Γ φ W (.enm ca)) := by
  refine PI.of (pi_enum hg hm (ps_cons (m := false) ha ps_nil hs) hs) fun σ H RR h => ?_
  obtain ⟨F, ρ, ok, h⟩ := h
  rw [evI] at h
  refine ⟨F, ρ, ok, ?_⟩
  rw [evs]
  cases q1 : ev φ ca ρ with
  | stuck => rw [q1] at h; exact h.elim
  | exc u ρ1 => rw [q1] at h; exact h
  | ok x ρ1 =>
  rw [q1] at h
  simp only [R.bind_ok] at h ⊢
  cases q2 : A.frz x ρ1 with
  | stuck => rw [q2] at h; exact h.elim
  | exc u ρ1 => exact (frz_exc q2).elim
  | ok d ρ2 =>
  rw [q2] at h
  simp only [R.bind_ok] at h ⊢
  rw [evs]
  simp only [R.bind_ok]
  intro vs F1 H1 g r
  obtain ⟨p, e0, h⟩ := h.opt
  obtain ⟨l, e1, rfl⟩ := Option.map_eq_some_iff.mp e0
  rw [Reps] at r
  obtain ⟨v, r', rfl, rv, r⟩ := r
  rw [Reps] at r
  subst r
  rw [hK]
  unfold enumD at e1
  split at e1
  · cases e1
    rw [Rep] at rv
    obtain ⟨a1, xs, rfl, s1, p1⟩ := rv
    exact ⟨a1, xs, rfl, .inl (Same.rd g.ok.le s1), h _ F1 H1 g ⟨none, (fun _ _ z => by cases z), fun F' H' gr le' _ => walk_en le' (.inl (Same.rd le' (Same.rd gr s1))) (p1.mono gr)⟩⟩
  · cases e1
    rw [Rep] at rv
    obtain ⟨a1, xs, rfl, s1, p1⟩ := rv
    exact ⟨a1, xs, rfl, Same.sqL g.ok.le s1, h _ F1 H1 g ⟨none, (fun _ _ z => by cases z), fun F' H' gr le' _ => walk_en le' (Same.sqL le' (Same.sqL gr s1)) (p1.mono gr)⟩⟩
  · cases e1
theorem pi_rng3_ (hg : Gl X "range") (hm : X.mg "range" = none) (ha : PE X a (Tx Γ φ W ca)) (hb : PE X b (Tx Γ φ W cb)) (hc : PE X c (Tx Γ φ W cc)) (hs : starEach [a, b, c] X.env = (false, eval a X.env) :: starEach [b, c] X.env) (hs2 : starEach [b, c] X.env = (false, eval b X.env) :: starEach [c] X.env) (hs3 : starEach [c] X.env = (false, eval c X.env) :: starEach [] X.env) :
    PI X tg (.Call (.Name "range" p) [a, b, c] [] pos) (Ti Γ φ W (.rng3 ca cb cc)) := by
  refine PI.of (pi_range3 hg hm (pa_cons ha (pa_cons hb (pa_cons hc pa_nil hs3) hs2) hs) hs (by rw [hs2, hs3]; rfl)) fun σ H RR h => ?_
  obtain ⟨F, ρ, ok, h⟩ := h
  rw [evI] at h
  refine ⟨F, ρ, ok, Post.bnd h fun x ρ1 h v F1 H1 g1 r1 => ⟨F1, ρ1, g1.ok, Post.bnd (Post.from (rep1 := fun F' H' ρ' p J => RepI Γ.K F' H' σ ρ' p J) h g1 fun _ _ _ _ _ z => z) fun y ρ2 h u F2 H2 g2 r2 => ⟨F2, ρ2, g2.ok, Post.bnd (Post.from (rep1 := fun F' H' ρ' p J => RepI Γ.K F' H' σ ρ' p J) h g2 fun _ _ _ _ _ z => z) fun z ρ3 h w F3 H3 g3 r3 => ?_⟩⟩⟩
  have key : ∀ {α : A} {v : V} {H0 F H : Hp} {ρ : Env} {i : Int}, α = .d (.int i) → RepA Γ.K H0 F H σ ρ α v → v = .int i := fun {α v H0 F H ρ i} e r => by
    subst e
    have r' : Rep Γ.K F (.int i) v := r
    rw [Rep] at r'
    exact r'
  cases x with
  | d x =>
    cases x with
    | int i =>
      cases y with
      | d y =>
        cases y with
        | int j =>
          cases z with
          | d z =>
            cases z with
            | int k =>
              obtain rfl := key rfl r1
              obtain rfl := key rfl r2
              obtain rfl := key rfl r3
              have h' : Post Γ F2 H2 σ ρ2 W (if rng3Ok i j k = true then Pv.R.ok (A.d .non, rng3D i j k) ρ3 else .stuck) (fun F' H' ρ' p J => RepI Γ.K F' H' σ ρ' p J) RR := h
              by_cases hz : rng3Ok i j k = true
              · rw [if_pos hz] at h'
                unfold rng3Ok at hz
                simp only [Bool.and_eq_true, Bool.not_eq_true', decide_eq_false_iff_not, decide_eq_true_eq] at hz
                obtain ⟨⟨⟨z1, z2⟩, z3⟩, z4⟩ := hz
                exact ⟨i, j, k, (Builtin.Range.rangeSize i j k).toNat, rfl, ⟨z1, z2, z3, by omega⟩, h' _ F3 H3 g3 ⟨none, (fun _ _ z => by cases z), fun F' H' gr le' _ => walk_c le'⟩⟩
              · rw [if_neg hz] at h'
                exact h'.elim
            | _ => exact h.elim
          | _ => exact h.elim
        | _ => cases z <;> exact h.elim
      | _ => cases z <;> exact h.elim
    | _ => cases y <;> cases z <;> exact h.elim
  | _ => cases y <;> cases z <;> exact h.elim
end
end Pv

/-! Pv15: a look at whether a code is the code of a text. -/
namespace Pv
open PySem PySem.Spec L2
open PyProof.Rows hiding St
mutual
def beqD : D → D → Bool
  | .non, .non => true
  | .bl a, .bl b => a == b
  | .int a, .int b => decide (a = b)
  | .str a, .str b => decide (a = b)
  | .tup a, .tup b => beqDs a b
  | .lst a, .lst b => beqDs a b
  | _, _ => false
def beqDs : List D → List D → Bool
  | [], [] => true
  | x :: xs, y :: ys => beqD x y && beqDs xs ys
  | _, _ => false
end
mutual
theorem beqD_eq : ∀ (a b : D), beqD a b = true → a = b
  | .non, .non, _ => rfl
  | .bl a, .bl b, h => by rw [beqD] at h; rw [beq_iff_eq.mp h]
  | .int a, .int b, h => by rw [beqD] at h; rw [of_decide_eq_true h]
  | .str a, .str b, h => by rw [beqD] at h; rw [of_decide_eq_true h]
  | .tup a, .tup b, h => by rw [beqD] at h; rw [beqDs_eq a b h]
  | .lst a, .lst b, h => by rw [beqD] at h; rw [beqDs_eq a b h]
  | .non, .bl _, h | .non, .int _, h | .non, .str _, h | .non, .tup _, h | .non, .lst _, h | .non, .dic _, h | .non, .scr _, h | .non, .adr _, h | .non, .gl _ _, h => by simp [beqD] at h
  | .bl _, .non, h | .bl _, .int _, h | .bl _, .str _, h | .bl _, .tup _, h | .bl _, .lst _, h | .bl _, .dic _, h | .bl _, .scr _, h | .bl _, .adr _, h | .bl _, .gl _ _, h => by simp [beqD] at h
  | .int _, .non, h | .int _, .bl _, h | .int _, .str _, h | .int _, .tup _, h | .int _, .lst _, h | .int _, .dic _, h | .int _, .scr _, h | .int _, .adr _, h | .int _, .gl _ _, h => by simp [beqD] at h
  | .str _, .non, h | .str _, .bl _, h | .str _, .int _, h | .str _, .tup _, h | .str _, .lst _, h | .str _, .dic _, h | .str _, .scr _, h | .str _, .adr _, h | .str _, .gl _ _, h => by simp [beqD] at h
  | .tup _, .non, h | .tup _, .bl _, h | .tup _, .int _, h | .tup _, .str _, h | .tup _, .lst _, h | .tup _, .dic _, h | .tup _, .scr _, h | .tup _, .adr _, h | .tup _, .gl _ _, h => by simp [beqD] at h
  | .lst _, .non, h | .lst _, .bl _, h | .lst _, .int _, h | .lst _, .str _, h | .lst _, .tup _, h | .lst _, .dic _, h | .lst _, .scr _, h | .lst _, .adr _, h | .lst _, .gl _ _, h => by simp [beqD] at h
  | .dic _, _, h => by simp [beqD] at h
  | .scr _, _, h => by simp [beqD] at h
  | .adr _, _, h => by simp [beqD] at h
  | .gl _ _, _, h => by simp [beqD] at h
theorem beqDs_eq : ∀ (a b : List D), beqDs a b = true → a = b
  | [], [], _ => rfl
  | x :: xs, y :: ys, h => by
    rw [beqDs, Bool.and_eq_true] at h
    rw [beqD_eq x y h.1, beqDs_eq xs ys h.2]
  | [], _ :: _, h => by simp [beqDs] at h
  | _ :: _, [], h => by simp [beqDs] at h
end
/-- the names of the whole text: constants, defs by number, built-ins that nothing hides -/
structure CGl where
  cst : List (Str × D)
  fns : List (Str × Nat)
  blt : List Str
  xcs : List Str
  gs : List Nat
/-- how many hidden arguments a def has -/
def ngOf (G : CGl) (f : Nat) : Nat := if f ∈ G.gs then 1 else 0
def visB (sc : Scope) (x : Str) : Bool := match sc.names.lookup x with
  | some .local => true
  | some .cell => true
  | some .free => true
  | _ => false
def locB (sc : Scope) (x : Str) : Bool := match sc.names.lookup x with
  | some .local => true
  | some .cell => true
  | _ => false
def isLoc (sc : Scope) (x : Str) : Bool := match sc.names.lookup x with
  | some .local => true
  | _ => false
def isCell (sc : Scope) (x : Str) : Bool := match sc.names.lookup x with
  | some .cell => true
  | _ => false
def glB (sc : Scope) (x : Str) : Bool := match sc.names.lookup x with
  | some .globalImplicit => true
  | _ => false
def nameOk (x : Str) : Bool := !(x == ("__debug__" : Str)) && !(x == ("__classdict__" : Str)) && !decide (x = ("__name__" : Str))
def isPlain : Expr → Bool
  | .Starred .. => false
  | _ => true
def genT : Expr → Bool
  | .UnaryOp .Not _ _ => false
  | .BoolOp .. => false
  | .IfExp .. => false
  | .Compare .. => false
  | _ => true
def isSl : Expr → Bool
  | .Slice .. => true
  | _ => false
def isSet : Expr → Bool
  | .Set .. => true
  | _ => false
def isCall : Expr → Bool
  | .Call .. => true
  | _ => false
def isComp : Expr → Bool
  | .ListComp .. => true
  | .SetComp .. => true
  | .DictComp .. => true
  | _ => false
def biName : Nat → Option Str
  | 0 => some "len"
  | 1 => some "tuple"
  | 2 => some "list"
  | 3 => some "all"
  | 4 => some "any"
  | 5 => some "sum"
  | 6 => some "int"
  | 7 => some "abs"
  | 8 => some "max"
  | 9 => some "min"
  | 10 => some "str"
  | _ => none
def tyS : Nat → Option Str
  | 0 => some "int"
  | 1 => some "bool"
  | 2 => some "str"
  | 3 => some "tuple"
  | 4 => some "list"
  | 5 => some "dict"
  | _ => none
def mt1S : Nat → Option Str
  | 0 => some "join"
  | 1 => some "index"
  | _ => none
def ownOf (N : List Str) (sc : Scope) : List (Str × Nat) := (sc.names.filter fun p => match p.2 with
  | .local => decide (p.1 ∈ N)
  | .cell => decide (p.1 ∈ N)
  | _ => false).map fun p => (p.1, N.idxOf p.1)
def okC (G : CGl) (sc : Scope) (d : D) (e : Expr) : Bool := match e with
  | .Name x _ => glB sc x && nameOk x && (match G.cst.lookup x with
    | some d' => beqD d d'
    | none => false)
  | .Constant c _ _ => match c, d with
    | .int i, .int j => decide (i = j)
    | .str i, .str j => decide (i = j)
    | .bool i, .bl j => i == j
    | .none, .non => true
    | _, _ => false
  | _ => false
def strictGl (G : CGl) (sc : Scope) (x : Str) : Bool := glB sc x && nameOk x && decide (x ∈ G.blt)
/-- o: the block's own scope (none: a def's body) -/
def fnB (o : Option Scope) (sc : Scope) (x : Str) : Bool := match o with
  | none => true
  | some s => isCell s x || isLoc sc x
mutual
def okTg (N : List Str) (o : Option Scope) (sc : Scope) : Tg → Expr → Bool
  | .name i, e => match e with
    | .Name x _ => decide (N[i]? = some x) && locB sc x && fnB o sc x
    | _ => false
  | .tup ts, e => match e with
    | .Tuple es _ _ => okTgs N o sc ts es
    | _ => false
def okTgs (N : List Str) (o : Option Scope) (sc : Scope) : Tgs → List Expr → Bool
  | .nil, es => es.isEmpty
  | .cons t r, es => match es with
    | e :: es => isPlain e && okTg N o sc t e && okTgs N o sc r es
    | [] => false
end
/-- pairs are taken apart as they come -/
def itTg : It → Expr → Bool
  | .zip _ _, .Tuple .. => true
  | .enm _, .Tuple .. => true
  | .zip _ _, _ => false
  | .enm _, _ => false
  | _, _ => true
mutual
def okE (G : CGl) (N : List Str) : E → Scope → Expr → Bool
  | .var i, sc, e => match e with
    | .Name x _ => decide (N[i]? = some x) && visB sc x && nameOk x
    | _ => false
  | .cst d, sc, e => okC G sc d e
  | .tup es, sc, e => match e with
    | .Tuple xs _ _ => okEs G N es sc xs
    | _ => false
  | .lst es, sc, e => match e with
    | .List xs _ => okEs G N es sc xs
    | _ => false
  | .bin op a b, sc, e => match e with
    | .BinOp x op' y _ => decide (op = op') && okE G N a sc x && okE G N b sc y
    | _ => false
  | .neg a, sc, e => match e with
    | .UnaryOp .USub x _ => okE G N a sc x
    | _ => false
  | .cmp op a b, sc, e => match e with
    | .Compare x [op'] [y] _ => decide (op = op') && okE G N a sc x && okE G N b sc y && !behindInMarks op y
    | _ => false
  | .cmp2 op1 op2 a b c, sc, e => match e with
    | .Compare x [o1, o2] [y, z] _ => decide (op1 = o1) && decide (op2 = o2) && okE G N a sc x && okE G N b sc y && okE G N c sc z && !lastMarks [o1, o2] [y, z]
    | _ => false
  | .and a b, sc, e => match e with
    | .BoolOp .And (x :: y :: r) p => okE G N a sc x && (match r with
      | [] => okE G N b sc y
      | _ :: _ => okE G N b sc (.BoolOp .And (y :: r) p))
    | _ => false
  | .or a b, sc, e => match e with
    | .BoolOp .Or (x :: y :: r) p => okE G N a sc x && (match r with
      | [] => okE G N b sc y
      | _ :: _ => okE G N b sc (.BoolOp .Or (y :: r) p))
    | _ => false
  | .not a, sc, e => match e with
    | .UnaryOp .Not x _ => okE G N a sc x
    | _ => false
  | .ife c a b, sc, e => match e with
    | .IfExp t x y _ => okT G N c sc t && okE G N a sc x && okE G N b sc y
    | _ => false
  | .ix a i, sc, e => match e with
    | .Subscript x y _ => okE G N a sc x && okE G N i sc y && !isSl y
    | _ => false
  | .sl a lo hi, sc, e => match e with
    | .Subscript x (.Slice l h none _) _ => okE G N a sc x && okO G N lo sc l && okO G N hi sc h
    | _ => false
  | .call f es, sc, e => match e with
    | .Call (.Name x _) args [] _ => decide (G.fns.lookup x = some f) && glB sc x && nameOk x && okEs G N es sc args && decide (ngOf G f = 0)
    | _ => false
  | .bi b es, sc, e => match e with
    | .Call (.Name x _) args [] _ => decide (biName b = some x) && strictGl G sc x && !args.isEmpty && okEs G N es sc args
    | _ => false
  | .isi a t, sc, e => match e with
    | .Call (.Name x _) [y, .Name z _] [] _ => decide (x = ("isinstance" : Str)) && strictGl G sc x && okE G N a sc y && isPlain y && decide (tyS t = some z) && strictGl G sc z
    | _ => false
  | .mt0 _ _, _, _ => false
  | .mt1 m a b, sc, e => match e with
    | .Call (.Attribute x name apos) [y] [] cpos => decide (mt1S m = some name) && okE G N a sc x && okE G N b sc y && isPlain y && !isCall x && (apos.endLine == cpos.line)
    | _ => false
  | .lc elt tg it c vs, sc, e => match e with
    | .ListComp x [⟨t, itx, ifs, k⟩] scope _ => decide (k = 0) && blkC N sc scope (ownOf N scope) && decide ((ownOf N scope).map (·.2) = vs) && (tgSlots tg).all (fun i => decide (i ∈ vs)) && okI G N it sc itx && !isSet itx &&
        okTg N (some scope) (relS scope sc) tg t && okTs G N c (relS scope sc) ifs && okE G N elt (relS scope sc) x && itTg it t
    | _ => false
  | .ali i _, sc, e => match e with
    | .Name x _ => decide (N[i]? = some x) && visB sc x && nameOk x
    | _ => false
  | .mkT a b, sc, e => match e with
    | .List [x, y] _ => okE G N a sc x && okE G N b sc y && isPlain x && isPlain y
    | _ => false
  | .callT f es _, sc, e => match e with
    | .Call (.Name x _) (y :: ys) [] _ => decide (G.fns.lookup x = some f) && glB sc x && nameOk x && okEs G N es sc (y :: ys) && decide (ngOf G f = 1)
    | _ => false
  | .no, _, _ => true
def okT (G : CGl) (N : List Str) : T → Scope → Expr → Bool
  | .yes, _, _ => false
  | .val a, sc, e => okE G N a sc e && (genT e || (match e with
    | .Compare .. => true
    | _ => false))
  | .not a, sc, e => match e with
    | .UnaryOp .Not x _ => okT G N a sc x
    | _ => false
  | .and a b, sc, e => match e with
    | .BoolOp .And (x :: y :: r) p => okT G N a sc x && (match r with
      | [] => okT G N b sc y
      | _ :: _ => okT G N b sc (.BoolOp .And (y :: r) p))
    | _ => false
  | .or a b, sc, e => match e with
    | .BoolOp .Or (x :: y :: r) p => okT G N a sc x && (match r with
      | [] => okT G N b sc y
      | _ :: _ => okT G N b sc (.BoolOp .Or (y :: r) p))
    | _ => false
  | .ife c a b, sc, e => match e with
    | .IfExp t x y _ => okT G N c sc t && okT G N a sc x && okT G N b sc y
    | _ => false
def okTs (G : CGl) (N : List Str) : T → Scope → List Expr → Bool
  | .yes, _, es => es.isEmpty
  | .val a, sc, es => match es with
    | [e] => okE G N a sc e && (genT e || (match e with
      | .Compare .. => true
      | _ => false))
    | _ => false
  | .not a, sc, es => match es with
    | [.UnaryOp .Not x _] => okT G N a sc x
    | _ => false
  | .and a b, sc, es => match es with
    | [.BoolOp .And (x :: y :: r) p] => okT G N a sc x && (match r with
      | [] => okT G N b sc y
      | _ :: _ => okT G N b sc (.BoolOp .And (y :: r) p))
    | _ => false
  | .or a b, sc, es => match es with
    | [.BoolOp .Or (x :: y :: r) p] => okT G N a sc x && (match r with
      | [] => okT G N b sc y
      | _ :: _ => okT G N b sc (.BoolOp .Or (y :: r) p))
    | _ => false
  | .ife c a b, sc, es => match es with
    | [.IfExp t x y _] => okT G N c sc t && okT G N a sc x && okT G N b sc y
    | _ => false
def okEs (G : CGl) (N : List Str) : Es → Scope → List Expr → Bool
  | .nil, _, es => es.isEmpty
  | .cons _ a r, sc, es => match es with
    | e :: es => isPlain e && okE G N a sc e && okEs G N r sc es
    | [] => false
def okO (G : CGl) (N : List Str) : Eo → Scope → Option Expr → Bool
  | .no, _, e => e.isNone
  | .so a, sc, e => match e with
    | some e => okE G N a sc e
    | none => false
def okI (G : CGl) (N : List Str) : It → Scope → Expr → Bool
  | .ex a, sc, e => okE G N a sc e
  | .rng1 a, sc, e => match e with
    | .Call (.Name x _) [y] [] _ => decide (x = ("range" : Str)) && strictGl G sc x && okE G N a sc y && isPlain y
    | _ => false
  | .rng2 a b, sc, e => match e with
    | .Call (.Name x _) [y, z] [] _ => decide (x = ("range" : Str)) && strictGl G sc x && okE G N a sc y && isPlain y && okE G N b sc z && isPlain z
    | _ => false
  | .rng3 a b c, sc, e => match e with
    | .Call (.Name x _) [y, z, w] [] _ => decide (x = ("range" : Str)) && strictGl G sc x && okE G N a sc y && isPlain y && okE G N b sc z && isPlain z && okE G N c sc w && isPlain w
    | _ => false
  | .zip a b, sc, e => match e with
    | .Call (.Name x _) [y, z] [] _ => decide (x = ("zip" : Str)) && strictGl G sc x && okE G N a sc y && isPlain y && okE G N b sc z && isPlain z
    | _ => false
  | .enm a, sc, e => match e with
    | .Call (.Name x _) [y] [] _ => decide (x = ("enumerate" : Str)) && strictGl G sc x && okE G N a sc y && isPlain y
    | _ => false
end
/-! ### what the looks tell -/
theorem star_plain {e : Expr} {es : List Expr} {env : PySem.Env} (h : isPlain e = true) : starEach (e :: es) env = (false, eval e env) :: starEach es env := by
  cases e <;> first | rfl | cases h
theorem genT_eq {e : Expr} {env : PySem.Env} (h : genT e = true) (whole : Sem Value) : isTrue e env whole = (do let v ← whole; standAt e.pos; holding [v] (truthy v)) := by
  cases e with
  | UnaryOp op x p => cases op <;> first | rfl | cases h
  | _ => first | rfl | cases h
theorem plainIx_of {e : Expr} (h : isSl e = false) : PlainIx e := fun o i => by
  cases e <;> first | rfl | cases h
theorem folded_of {e : Expr} {env : PySem.Env} (h : isSet e = false) (x : Value) : foldedSetIterable e env x = pure x := by
  cases e <;> first | rfl | cases h
theorem base_of {e : Expr} {env : PySem.Env} {a : Str} (h : isCall e = false) : attributeBase e a env (eval e env) = eval e env := by
  cases e <;> first | rfl | cases h
theorem swaps_of {e : Expr} {t : Option Expr} {l : Nat} {env : PySem.Env} (h : isComp e = false) : swapsWith e t l env = pure false := by
  cases e <;> first | rfl | cases h
theorem vis_of {sc : Scope} {x : Str} (h : visB sc x = true) : Vis sc x := by
  unfold visB at h
  split at h
  · rename_i e; exact .inl e
  · rename_i e; exact .inr (.inl e)
  · rename_i e; exact .inr (.inr e)
  · cases h
theorem loc_of {sc : Scope} {x : Str} (h : locB sc x = true) : Loc sc x := by
  unfold locB at h
  split at h
  · rename_i e; exact .inl e
  · rename_i e; exact .inr e
  · cases h
theorem isLoc_of {sc : Scope} {x : Str} (h : isLoc sc x = true) : sc.names.lookup x = some .local := by
  unfold isLoc at h
  split at h
  · rename_i e; exact e
  · cases h
theorem isCell_of {sc : Scope} {x : Str} (h : isCell sc x = true) : sc.names.lookup x = some .cell := by
  unfold isCell at h
  split at h
  · rename_i e; exact e
  · cases h
theorem gl_of {sc : Scope} {x : Str} (h : glB sc x = true) : sc.names.lookup x = some .globalImplicit := by
  unfold glB at h
  split at h
  · rename_i e; exact e
  · cases h
theorem nameOk_of {x : Str} (h : nameOk x = true) : (x == ("__debug__" : Str)) = false ∧ (x == ("__classdict__" : Str)) = false ∧ x ≠ ("__name__" : Str) := by
  unfold nameOk at h
  simp only [Bool.and_eq_true, Bool.not_eq_true', decide_eq_false_iff_not] at h
  exact ⟨h.1.1, h.1.2, h.2⟩
theorem pe_bool1 {X : Cx} {op : BoolOp} {a : Expr} {t : TE} {p : Pos} (h : PE X a t) : PE X (.BoolOp op [a] p) t := by
  refine ⟨fun pins s σ H Q I q => ?_⟩
  have e : eval (.BoolOp op [a] p) X.env = eval a X.env := by rfl
  rw [e]
  exact h.run pins s σ H Q I q
end Pv

/-! Pv16: a code that the look takes tells of its text. -/
namespace Pv
open PySem PySem.Spec L2
open PyProof.Rows hiding St
/-- where a text stands -/
structure CxR (G : CGl) (N : List Str) (Γ : Gm) (φ : Phi) (k : Nat) (X : Cx) (W : WX) (sc : Scope) (o : Option Scope) : Prop where
  K : X.K = Γ.K
  nN : X.N = N
  nd : N.Nodup
  calm : X.calm = true
  sc : X.env.scope = sc
  fn : ∀ x, (∀ s, o = some s → isCell s x = true) → X.fn x = true
  tk : Takes X W
  rm : Room k X.A
  cst : ∀ (x : Str) (d : D), G.cst.lookup x = some d → ∃ v u, X.mg x = some u ∧ RelV v u ∧ Rep Γ.K (fun _ => none) d v
  fns : ∀ (x : Str) (f : Nat), G.fns.lookup x = some f → ∃ a fd ps, FnOk X.prog X.w X.K X.mg X.base (L2.CX X.prog X.w) k a fd ps (spF Γ (ngOf G f) (φ f)) ∧ X.mg x = some (.ref a) ∧ PySem.W.keepIn X.K (.ref a) = true ∧ Binds X.K fd ps []
  blt : ∀ x, x ∈ G.blt → X.mg x = none
  xn : G.xcs.length = Γ.n
  xs : ∀ (c : Nat) (z : Str), G.xcs[c]? = some z → X.mg z = some (.ref (Γ.cl c)) ∧ XCx X.prog X.w X.K X.mg (Γ.cl c) z
  xm : ∀ c k, c < Γ.n → k < Γ.n → PySem.W.exmOne X.K (.ref (Γ.cl k)) (.ref (Γ.cl c)) = some (clsB c k)
section
variable {G : CGl} {N : List Str} {Γ : Gm} {φ : Phi} {k : Nat} {X : Cx} {W : WX} {sc : Scope} {o : Option Scope}
theorem CxR.gl (R : CxR G N Γ φ k X W sc o) {x : Str} (h : glB sc x = true) : Gl X x := by
  show X.env.scope.names.lookup x = _
  rw [R.sc]
  exact gl_of h
theorem CxR.strict (R : CxR G N Γ φ k X W sc o) {x : Str} (h : strictGl G sc x = true) : Gl X x ∧ X.mg x = none ∧ x ≠ ("__name__" : Str) ∧ (x == ("__debug__" : Str)) = false := by
  unfold strictGl at h
  simp only [Bool.and_eq_true, decide_eq_true_eq] at h
  obtain ⟨h1, _, h3⟩ := nameOk_of h.1.2
  exact ⟨R.gl h.1.1, R.blt _ h.2, h3, h1⟩
theorem CxR.units (R : CxR G N Γ φ k X W sc o) : X.A.units + 64 < cLine := by have := R.rm.un; omega
theorem CxR.blk (R : CxR G N Γ φ k X W sc o) (s : Shared) (H : Hp) (scope : Scope) (C : Addr) (cl : List (Str × Addr)) (fp : List Addr) : CxR G N Γ φ k (X.blk s H scope (compEnvC scope cl C X.env) fp) W0 (relS scope sc) (some scope) where
  K := R.K
  nN := R.nN
  nd := R.nd
  calm := R.calm
  sc := by rw [← R.sc]; rfl
  fn := fun x h => by
    have := isCell_of (h scope rfl)
    show (scope.names.lookup x == some .cell) = true
    rw [this]; rfl
  tk := takes0
  rm := R.rm
  cst := R.cst
  fns := R.fns
  blt := R.blt
  xn := R.xn
  xs := R.xs
  xm := R.xm
theorem okC_ok (R : CxR G N Γ φ k X W sc o) {d : D} {e : Expr} (h : okC G sc d e = true) : PE X e (Tx Γ φ W (.cst d)) := by
  unfold okC at h
  split at h
  · rename_i x p
    simp only [Bool.and_eq_true] at h
    obtain ⟨⟨h1, h2⟩, h3⟩ := h
    split at h3
    · rename_i d' q
      obtain ⟨v, u, hm, hr, rep⟩ := R.cst x d' q
      have := beqD_eq _ _ h3
      subst this
      exact px_cst (pe_glob (R.gl h1) hm hr (nameOk_of h2).1) rep
    · cases h3
  · rename_i c j p
    split at h
    · rw [of_decide_eq_true h]; exact px_cst pe_int (by rw [Rep])
    · rw [of_decide_eq_true h]; exact px_cst pe_str (by rw [Rep])
    · rw [beq_iff_eq.mp h]; exact px_cst pe_bl (by rw [Rep])
    · exact px_cst pe_non (by rw [Rep])
    · cases h
  · cases h
mutual
theorem okTg_ok (R : CxR G N Γ φ k X W sc o) : ∀ (t : Tg) (e : Expr), okTg N o sc t e = true → PG X e (gT Γ t)
  | .name i, e, h => by
    unfold okTg at h
    split at h
    · rename_i x p
      simp only [Bool.and_eq_true, decide_eq_true_eq] at h
      obtain ⟨⟨h1, h2⟩, h3⟩ := h
      refine pg_name_ (by rw [R.nN]; exact R.nd) (by rw [R.nN]; exact h1) (by rw [R.sc]; exact loc_of h2) ?_
      unfold fnB at h3
      split at h3
      · exact .inl (R.fn x fun s z => by cases z)
      · rename_i s
        simp only [Bool.or_eq_true] at h3
        rcases h3 with h3 | h3
        · exact .inl (R.fn x fun s' z => by cases z; exact h3)
        · exact .inr (by rw [R.sc]; exact isLoc_of h3)
    · cases h
  | .tup ts, e, h => by
    unfold okTg at h
    split at h
    · rename_i es j p
      obtain ⟨h1, h2, h3, h4⟩ := okTgs_ok R ts es h
      exact pg_tup_ R.K R.calm h1 h2 h3 h4
    · cases h
theorem okTgs_ok (R : CxR G N Γ φ k X W sc o) : ∀ (t : Tgs) (es : List Expr), okTgs N o sc t es = true → PGs X es (gTs Γ t) ∧ (assignEach es X.env).length = es.length ∧ (assignEach es X.env).findIdx? (·.1) = none ∧ ∀ (ds : List D) (ρ ρ' : Env), tgsD t ds ρ = some ρ' → ds.length = es.length
  | .nil, es, h => by
    unfold okTgs at h
    cases es with
    | nil => exact ⟨pgs_nil_, rfl, rfl, fun ds ρ ρ' q => by
        cases ds with
        | nil => rfl
        | cons d ds => simp [tgsD] at q⟩
    | cons e es => cases h
  | .cons t r, es, h => by
    unfold okTgs at h
    split at h
    · rename_i e es
      simp only [Bool.and_eq_true] at h
      obtain ⟨⟨h1, h2⟩, h3⟩ := h
      obtain ⟨q1, q2, q3, q4⟩ := okTgs_ok R r es h3
      have he : assignEach (e :: es) X.env = (false, assign e X.env) :: assignEach es X.env := by cases e <;> first | rfl | cases h1
      refine ⟨pgs_cons_ (okTg_ok R t e h2) q1 (by rw [he]; rfl), by rw [he]; simp [q2], by rw [he, List.findIdx?_cons]; simp [q3], fun ds ρ ρ' q => ?_⟩
      cases ds with
      | nil => simp [tgsD] at q
      | cons d ds =>
        rw [tgsD] at q
        obtain ⟨ρ1, _, q⟩ := Option.bind_eq_some_iff.mp q
        simp [q4 _ _ _ q]
    · cases h
end
theorem plain_any {es : List Expr} {pos : Pos} {env : PySem.Env} : (∀ e ∈ es, isPlain e = true) → (backTo pos (starEach es env)).any (·.1) = false := fun h => by
  induction es with
  | nil => rfl
  | cons e es ih =>
    rw [star_plain (h e (List.mem_cons_self ..))]
    show (false || (backTo pos (starEach es env)).any (·.1)) = false
    rw [ih fun e' he => h e' (List.mem_cons_of_mem _ he)]
    rfl
theorem okEs_plain : ∀ (c : Es) (sc : Scope) (es : List Expr), okEs G N c sc es = true → ∀ e ∈ es, isPlain e = true
  | .nil, sc, es, h => by
    unfold okEs at h
    cases es with
    | nil => exact fun e he => by cases he
    | cons e es => cases h
  | .cons m a r, sc, es, h => by
    unfold okEs at h
    split at h
    · rename_i e es
      simp only [Bool.and_eq_true] at h
      intro e' he
      rcases List.mem_cons.mp he with z | z
      · rw [z]; exact h.1.1
      · exact okEs_plain r sc es h.2 e' z
    · cases h
theorem px_bi (R : CxR G N Γ φ k X W sc o) {n : Nat} {x : Str} {p pos : Pos} {e : Expr} {es : List Expr} {ces : Es} (hn : biName n = some x) (hg : strictGl G sc x = true) (ha : PA X (e :: es) (Tb Γ φ W ces)) (hp : ∀ y ∈ e :: es, isPlain y = true) :
    PE X (.Call (.Name x p) (e :: es) [] pos) (Tx Γ φ W (.bi n ces)) := by
  obtain ⟨g, m, n1, d1⟩ := R.strict hg
  have he := star_plain (es := es) (env := X.env) (hp e (List.mem_cons_self ..))
  have hpl := plain_any (pos := pos) (env := X.env) fun y hy => hp y (List.mem_cons_of_mem e hy)
  match n, hn with
  | 0, hn => cases hn; exact px_biB R.K call_lenD rfl g m (by decide +kernel) ha n1 d1 he hpl
  | 1, hn => cases hn; exact px_biT R.K call_tupD rfl g m (by decide +kernel) ha n1 d1 he hpl
  | 2, hn => cases hn; exact px_biT R.K call_lstD rfl g m (by decide +kernel) ha n1 d1 he hpl
  | 3, hn => cases hn; exact px_biB R.K (call_allD R.calm) rfl g m (by decide +kernel) ha n1 d1 he hpl
  | 4, hn => cases hn; exact px_biB R.K (call_anyD R.calm) rfl g m (by decide +kernel) ha n1 d1 he hpl
  | 5, hn => cases hn; exact px_biB R.K (call_sumD R.calm) rfl g m (by decide +kernel) ha n1 d1 he hpl
  | 6, hn => cases hn; exact px_biT R.K call_intD rfl g m (by decide +kernel) ha n1 d1 he hpl
  | 7, hn => cases hn; exact px_biB R.K call_absD rfl g m (by decide +kernel) ha n1 d1 he hpl
  | 8, hn => cases hn; exact px_biB R.K (call_maxD R.calm) rfl g m (by decide +kernel) ha n1 d1 he hpl
  | 9, hn => cases hn; exact px_biB R.K (call_minD R.calm) rfl g m (by decide +kernel) ha n1 d1 he hpl
  | 10, hn => cases hn; exact px_biT R.K call_strD rfl g m (by decide +kernel) ha n1 d1 he hpl
  | n + 11, hn => cases hn
theorem ty_of {t : Nat} {z : Str} (h : tyS t = some z) : ∃ T, tyName t = some T ∧ bootBuiltins z = some (.type T) := by
  match t, h with
  | 0, h => cases h; exact ⟨_, rfl, by decide +kernel⟩
  | 1, h => cases h; exact ⟨_, rfl, by decide +kernel⟩
  | 2, h => cases h; exact ⟨_, rfl, by decide +kernel⟩
  | 3, h => cases h; exact ⟨_, rfl, by decide +kernel⟩
  | 4, h => cases h; exact ⟨_, rfl, by decide +kernel⟩
  | 5, h => cases h; exact ⟨_, rfl, by decide +kernel⟩
  | n + 6, h => cases h
theorem px_m1 (R : CxR G N Γ φ k X W sc o) {m : Nat} {name : Str} {a e : Expr} {ca ce : E} {apos cpos : Pos} (hn : mt1S m = some name) (ho : PE X a (Tx Γ φ W ca)) (he : PE X e (Tx Γ φ W ce)) (hp : isPlain e = true) (hc : isCall a = false) (hl : (apos.endLine == cpos.line) = true) :
    PE X (.Call (.Attribute a name apos) [e] [] cpos) (Tx Γ φ W (.mt1 m ca ce)) := by
  match m, hn with
  | 0, hn => cases hn; exact px_mt1 R.K F.plainAttrs_str F.slot_str_join F.type_str_join mt_joinD rfl ho he (base_of hc) hl (star_plain hp)
  | 1, hn => cases hn; exact px_mt1 R.K F.plainAttrs_str F.slot_str_index F.type_str_index (mt_sindexD R.calm) rfl ho he (base_of hc) hl (star_plain hp)
  | n + 2, hn => cases hn
end
end Pv

/-! Pv17: expressions, tests, arguments. -/
namespace Pv
open PySem PySem.Spec L2
open PyProof.Rows hiding St
section
variable {G : CGl} {N : List Str} {Γ : Gm} {φ : Phi} {k : Nat}
theorem pw_and' {X : Cx} {W : WX} {a b : Expr} {r : List Expr} {p : Pos} {ta tb : T} (ha : PT X a (Tt Γ φ W ta)) (hb : PW X (.BoolOp .And (b :: r) p) (Tt Γ φ W tb)) : PW X (.BoolOp .And (a :: b :: r) p) (Tt Γ φ W (.and ta tb)) := pw_and_ ha hb
theorem pw_any {X : Cx} {op : BoolOp} {xs : List Expr} {p : Pos} {t : TT} (h : PT X (.BoolOp op xs p) t) : PW X (.BoolOp op xs p) t := ⟨fun w pins s σ H Q I q => h.run pins s σ H Q I q⟩
theorem pt_ife_ {X : Cx} {W : WX} {c a b : Expr} {p : Pos} {tc ta tb : T} (hc : PT X c (Tt Γ φ W tc)) (ha : PT X a (Tt Γ φ W ta)) (hb : PT X b (Tt Γ φ W tb)) : PT X (.IfExp c a b p) (Tt Γ φ W (.ife tc ta tb)) := by
  refine ⟨fun pins s σ H Q I h => ?_⟩
  obtain ⟨F, ρ, ok, h⟩ := h
  rw [evT] at h
  have e : isTrue (.IfExp c a b p) X.env (eval (.IfExp c a b p) X.env) = (isTrue c X.env (eval c X.env) >>= fun d => if d = true then isTrue a X.env (eval a X.env) else isTrue b X.env (eval b X.env)) := by rfl
  rw [e]
  refine wpAny_bind (thn (hc.run pins s σ H (fun d H1 => if d = true then Tt Γ φ W ta σ H1 Q else Tt Γ φ W tb σ H1 Q) I ⟨F, ρ, ok, Post.bnd h fun d ρ1 h d' F1 H1 g1 r1 => ?_⟩) fun d s1 ⟨H1, I1, q1⟩ => ?_)
  · subst r1
    cases d' with
    | true => exact ⟨F1, ρ1, g1.ok, Post.from h g1 fun _ _ _ _ _ z => z⟩
    | false => exact ⟨F1, ρ1, g1.ok, Post.from h g1 fun _ _ _ _ _ z => z⟩
  · cases d with
    | true => exact ha.run pins s1 σ H1 Q I1 q1
    | false => exact hb.run pins s1 σ H1 Q I1 q1
theorem pt_no {X : Cx} {W : WX} {e : Expr} : PT X e (Tt Γ φ W (.val .no)) := ⟨fun pins s σ H Q I q => by
  obtain ⟨F, ρ, ok, q⟩ := q
  rw [evT, ev] at q
  exact q.elim⟩
mutual
theorem okE_ok : ∀ (c : E) (X : Cx) (W : WX) (sc : Scope) (o : Option Scope) (e : Expr), CxR G N Γ φ k X W sc o → okE G N c sc e = true → PE X e (Tx Γ φ W c)
  | .var i, X, W, sc, o, e, R, h => by
    unfold okE at h
    split at h
    · rename_i x p
      simp only [Bool.and_eq_true, decide_eq_true_eq] at h
      obtain ⟨⟨h1, h2⟩, h3⟩ := h
      obtain ⟨n1, n2, _⟩ := nameOk_of h3
      exact px_var R.K (by rw [R.nN]; exact h1) (by rw [R.sc]; exact vis_of h2) n1 n2
    · cases h
  | .cst d, X, W, sc, o, e, R, h => by
    unfold okE at h
    exact okC_ok R h
  | .tup es, X, W, sc, o, e, R, h => by
    unfold okE at h
    split at h
    · exact px_tup (okEs_s es X W sc o _ R h)
    · cases h
  | .lst es, X, W, sc, o, e, R, h => by
    unfold okE at h
    split at h
    · exact px_lst (okEs_s es X W sc o _ R h)
    · cases h
  | .bin op a b, X, W, sc, o, e, R, h => by
    unfold okE at h
    split at h
    · simp only [Bool.and_eq_true, decide_eq_true_eq] at h
      obtain ⟨⟨rfl, h2⟩, h3⟩ := h
      exact px_bin R.K (okE_ok a X W sc o _ R h2) (okE_ok b X W sc o _ R h3)
    · cases h
  | .neg a, X, W, sc, o, e, R, h => by
    unfold okE at h
    split at h
    · exact px_neg R.K (okE_ok a X W sc o _ R h)
    · cases h
  | .cmp op a b, X, W, sc, o, e, R, h => by
    unfold okE at h
    split at h
    · simp only [Bool.and_eq_true, decide_eq_true_eq, Bool.not_eq_true'] at h
      obtain ⟨⟨⟨rfl, h2⟩, h3⟩, h4⟩ := h
      exact px_cmp R.K R.units (okE_ok a X W sc o _ R h2) (okE_ok b X W sc o _ R h3) h4
    · cases h
  | .cmp2 op1 op2 a b c, X, W, sc, o, e, R, h => by
    unfold okE at h
    split at h
    · simp only [Bool.and_eq_true, decide_eq_true_eq, Bool.not_eq_true'] at h
      obtain ⟨⟨⟨⟨⟨rfl, rfl⟩, h2⟩, h3⟩, h4⟩, h5⟩ := h
      exact px_cmp2 R.K R.units (okE_ok a X W sc o _ R h2) (okE_ok b X W sc o _ R h3) (okE_ok c X W sc o _ R h4) h5
    · cases h
  | .and a b, X, W, sc, o, e, R, h => by
    unfold okE at h
    split at h
    · simp only [Bool.and_eq_true] at h
      obtain ⟨h1, h2⟩ := h
      split at h2
      · exact px_and (okE_ok a X W sc o _ R h1) (pe_bool1 (okE_ok b X W sc o _ R h2))
      · exact px_and (okE_ok a X W sc o _ R h1) (okE_ok b X W sc o _ R h2)
    · cases h
  | .or a b, X, W, sc, o, e, R, h => by
    unfold okE at h
    split at h
    · simp only [Bool.and_eq_true] at h
      obtain ⟨h1, h2⟩ := h
      split at h2
      · exact px_or (okE_ok a X W sc o _ R h1) (pe_bool1 (okE_ok b X W sc o _ R h2))
      · exact px_or (okE_ok a X W sc o _ R h1) (okE_ok b X W sc o _ R h2)
    · cases h
  | .not a, X, W, sc, o, e, R, h => by
    unfold okE at h
    split at h
    · exact px_not (okE_ok a X W sc o _ R h)
    · cases h
  | .ife c a b, X, W, sc, o, e, R, h => by
    unfold okE at h
    split at h
    · simp only [Bool.and_eq_true] at h
      obtain ⟨⟨h1, h2⟩, h3⟩ := h
      exact px_ife (okT_ok c X W sc o _ R h1) (okE_ok a X W sc o _ R h2) (okE_ok b X W sc o _ R h3)
    · cases h
  | .ix a i, X, W, sc, o, e, R, h => by
    unfold okE at h
    split at h
    · simp only [Bool.and_eq_true, Bool.not_eq_true'] at h
      obtain ⟨⟨h1, h2⟩, h3⟩ := h
      exact px_ix R.K (okE_ok a X W sc o _ R h1) (okE_ok i X W sc o _ R h2) (plainIx_of h3)
    · cases h
  | .sl a lo hi, X, W, sc, o, e, R, h => by
    unfold okE at h
    split at h
    · simp only [Bool.and_eq_true] at h
      obtain ⟨⟨h1, h2⟩, h3⟩ := h
      exact px_sl R.K (okE_ok a X W sc o _ R h1) (okO_ok lo X W sc o _ R h2) (okO_ok hi X W sc o _ R h3)
    · cases h
  | .call f es, X, W, sc, o, e, R, h => by
    unfold okE at h
    split at h
    · rename_i x p args pos
      simp only [Bool.and_eq_true, decide_eq_true_eq] at h
      obtain ⟨⟨⟨⟨h1, h2⟩, h3⟩, h4⟩, h5⟩ := h
      obtain ⟨a, fd, ps, F, hm, hk, hb⟩ := R.fns x f h1
      rw [h5] at F
      have hp := okEs_plain es sc args h4
      have ha := okEs_l es X W sc o _ R h4
      cases args with
      | nil =>
        have : es = .nil := by
          cases es with
          | nil => rfl
          | cons m a r => unfold okEs at h4; cases h4
        subst this
        exact px_call0 F R.rm (R.gl h2) hm hk hb R.tk (nameOk_of h3).1
      | cons y ys => exact px_call F R.rm (R.gl h2) hm hk hb R.tk ha (nameOk_of h3).1 (star_plain (hp y (List.mem_cons_self ..))) (plain_any fun z hz => hp z (List.mem_cons_of_mem _ hz))
    · cases h
  | .bi b es, X, W, sc, o, e, R, h => by
    unfold okE at h
    split at h
    · rename_i x p args pos
      simp only [Bool.and_eq_true, decide_eq_true_eq, Bool.not_eq_true'] at h
      obtain ⟨⟨⟨h1, h2⟩, h3⟩, h4⟩ := h
      have hp := okEs_plain es sc args h4
      cases args with
      | nil => cases h3
      | cons y ys => exact px_bi R h1 h2 (okEs_b es X W sc o _ R h4) hp
    · cases h
  | .isi a t, X, W, sc, o, e, R, h => by
    unfold okE at h
    split at h
    · simp only [Bool.and_eq_true, decide_eq_true_eq] at h
      obtain ⟨⟨⟨⟨⟨rfl, h2⟩, h3⟩, h4⟩, h5⟩, h6⟩ := h
      obtain ⟨T, t1, t2⟩ := ty_of h5
      obtain ⟨g1, m1, _, _⟩ := R.strict h2
      obtain ⟨g2, m2, n2, d2⟩ := R.strict h6
      exact px_isi R.K t1 g1 m1 g2 m2 t2 n2 d2 (okE_ok a X W sc o _ R h3) (star_plain h4)
    · cases h
  | .mt0 m a, X, W, sc, o, e, R, h => by
    unfold okE at h
    cases h
  | .mt1 m a b, X, W, sc, o, e, R, h => by
    unfold okE at h
    split at h
    · simp only [Bool.and_eq_true, decide_eq_true_eq, Bool.not_eq_true'] at h
      obtain ⟨⟨⟨⟨⟨h1, h2⟩, h3⟩, h4⟩, h5⟩, h6⟩ := h
      exact px_m1 R h1 (okE_ok a X W sc o _ R h2) (okE_ok b X W sc o _ R h3) h4 h5 h6
    · cases h
  | .lc elt tg it c vs, X, W, sc, o, e, R, h => by
    unfold okE at h
    split at h
    · rename_i x t itx ifs j scope pos
      simp only [Bool.and_eq_true, decide_eq_true_eq, Bool.not_eq_true'] at h
      obtain ⟨⟨⟨⟨⟨⟨⟨⟨⟨rfl, h2⟩, h3⟩, h4⟩, h5⟩, h6⟩, h7⟩, h8⟩, h9⟩, h10⟩ := h
      refine px_lc R.K R.calm (by rw [R.nN]; exact R.nd) (okI_ok it X W sc o _ _ R h5 h10) (by rw [R.nN, R.sc]; exact blkOk_by h2) h3 (fun i hi => ?_) (fun s H C cl fp => okTg_ok (R.blk s H scope C cl fp) tg t h7) (fun s H C cl fp => okTs_ok c _ _ _ _ _ (R.blk s H scope C cl fp) h8)
        (fun s H C cl fp => okE_ok elt _ _ _ _ _ (R.blk s H scope C cl fp) h9) (folded_of h6)
      exact of_decide_eq_true (List.all_eq_true.mp h4 i hi)
    · cases h
  | .ali i g, X, W, sc, o, e, R, h => by
    unfold okE at h
    split at h
    · rename_i x p
      simp only [Bool.and_eq_true, decide_eq_true_eq] at h
      obtain ⟨⟨h1, h2⟩, h3⟩ := h
      obtain ⟨n1, n2, _⟩ := nameOk_of h3
      exact px_ali (by rw [R.nN]; exact h1) (by rw [R.sc]; exact vis_of h2) n1 n2
    · cases h
  | .mkT a b, X, W, sc, o, e, R, h => by
    unfold okE at h
    split at h
    · simp only [Bool.and_eq_true] at h
      obtain ⟨⟨⟨h1, h2⟩, h3⟩, h4⟩ := h
      exact px_mkT (okE_ok a X W sc o _ R h1) (okE_ok b X W sc o _ R h2) (star_plain h3) (star_plain h4)
    · cases h
  | .callT f es g, X, W, sc, o, e, R, h => by
    unfold okE at h
    split at h
    · rename_i x p y ys pos
      simp only [Bool.and_eq_true, decide_eq_true_eq] at h
      obtain ⟨⟨⟨⟨h1, h2⟩, h3⟩, h4⟩, h5⟩ := h
      obtain ⟨a, fd, ps, F, hm, hk, hb⟩ := R.fns x f h1
      rw [h5] at F
      have hp := okEs_plain es sc _ h4
      have ha := okEs_l es X W sc o _ R h4
      exact px_callT F R.rm (R.gl h2) hm hk hb R.tk ha (nameOk_of h3).1 (star_plain (hp y (List.mem_cons_self ..))) (plain_any fun z hz => hp z (List.mem_cons_of_mem _ hz))
    · cases h
  | .no, X, W, sc, o, e, R, h => ⟨fun pins s σ H Q I q => by
      obtain ⟨F, ρ, ok, q⟩ := q
      rw [ev] at q
      exact q.elim⟩
theorem okT_ok : ∀ (c : T) (X : Cx) (W : WX) (sc : Scope) (o : Option Scope) (e : Expr), CxR G N Γ φ k X W sc o → okT G N c sc e = true → PT X e (Tt Γ φ W c)
  | .yes, X, W, sc, o, e, R, h => by
    unfold okT at h
    cases h
  | .val a, X, W, sc, o, e, R, h => by
    unfold okT at h
    simp only [Bool.and_eq_true, Bool.or_eq_true] at h
    obtain ⟨h1, h2⟩ := h
    rcases h2 with h2 | h2
    · exact pt_gen R.K (okE_ok a X W sc o e R h1) (genT_eq h2)
    · split at h2
      · cases a with
        | cmp op a b =>
          unfold okE at h1
          split at h1
          · rename_i e1
            cases e1
            simp only [Bool.and_eq_true, decide_eq_true_eq, Bool.not_eq_true'] at h1
            obtain ⟨⟨⟨rfl, q2⟩, q3⟩, q4⟩ := h1
            exact pt_cmp_ R.K R.units (okE_ok a X W sc o _ R q2) (okE_ok b X W sc o _ R q3) q4
          · cases h1
        | cmp2 op1 op2 a b c =>
          unfold okE at h1
          split at h1
          · rename_i e1
            cases e1
            simp only [Bool.and_eq_true, decide_eq_true_eq, Bool.not_eq_true'] at h1
            obtain ⟨⟨⟨⟨⟨rfl, rfl⟩, q2⟩, q3⟩, q4⟩, q5⟩ := h1
            exact pt_cmp2_ R.K R.units (okE_ok a X W sc o _ R q2) (okE_ok b X W sc o _ R q3) (okE_ok c X W sc o _ R q4) q5
          · cases h1
        | cst d => unfold okE okC at h1; cases h1
        | no => exact pt_no
        | _ => unfold okE at h1; cases h1
      · cases h2
  | .not a, X, W, sc, o, e, R, h => by
    unfold okT at h
    split at h
    · exact pt_not_ (okT_ok a X W sc o _ R h)
    · cases h
  | .and a b, X, W, sc, o, e, R, h => by
    unfold okT at h
    split at h
    · simp only [Bool.and_eq_true] at h
      obtain ⟨h1, h2⟩ := h
      split at h2
      · exact (pw_and_ (okT_ok a X W sc o _ R h1) (pw_and1_ (okT_ok b X W sc o _ R h2))).pt
      · exact (pw_and_ (okT_ok a X W sc o _ R h1) (pw_any (okT_ok b X W sc o _ R h2))).pt
    · cases h
  | .or a b, X, W, sc, o, e, R, h => by
    unfold okT at h
    split at h
    · simp only [Bool.and_eq_true] at h
      obtain ⟨h1, h2⟩ := h
      split at h2
      · exact (pw_or_ (okT_ok a X W sc o _ R h1) (pw_or1_ (okT_ok b X W sc o _ R h2))).pt
      · exact (pw_or_ (okT_ok a X W sc o _ R h1) (pw_any (okT_ok b X W sc o _ R h2))).pt
    · cases h
  | .ife c a b, X, W, sc, o, e, R, h => by
    unfold okT at h
    split at h
    · simp only [Bool.and_eq_true] at h
      obtain ⟨⟨h1, h2⟩, h3⟩ := h
      exact pt_ife_ (okT_ok c X W sc o _ R h1) (okT_ok a X W sc o _ R h2) (okT_ok b X W sc o _ R h3)
    · cases h
theorem okTs_ok : ∀ (c : T) (X : Cx) (W : WX) (sc : Scope) (o : Option Scope) (es : List Expr), CxR G N Γ φ k X W sc o → okTs G N c sc es = true → PTs X es (Tt Γ φ W c)
  | .yes, X, W, sc, o, e, R, h => by
    unfold okTs at h
    cases e with
    | nil => exact pts_yes
    | cons e es => cases h
  | .val a, X, W, sc, o, e, R, h => by
    unfold okTs at h
    split at h
    · simp only [Bool.and_eq_true, Bool.or_eq_true] at h
      obtain ⟨h1, h2⟩ := h
      refine pts_one ?_
      rcases h2 with h2 | h2
      · exact pt_gen R.K (okE_ok a X W sc o _ R h1) (genT_eq h2)
      · split at h2
        · cases a with
          | cmp op a b =>
            unfold okE at h1
            split at h1
            · rename_i e1
              cases e1
              simp only [Bool.and_eq_true, decide_eq_true_eq, Bool.not_eq_true'] at h1
              obtain ⟨⟨⟨rfl, q2⟩, q3⟩, q4⟩ := h1
              exact pt_cmp_ R.K R.units (okE_ok a X W sc o _ R q2) (okE_ok b X W sc o _ R q3) q4
            · cases h1
          | cmp2 op1 op2 a b c =>
            unfold okE at h1
            split at h1
            · rename_i e1
              cases e1
              simp only [Bool.and_eq_true, decide_eq_true_eq, Bool.not_eq_true'] at h1
              obtain ⟨⟨⟨⟨⟨rfl, rfl⟩, q2⟩, q3⟩, q4⟩, q5⟩ := h1
              exact pt_cmp2_ R.K R.units (okE_ok a X W sc o _ R q2) (okE_ok b X W sc o _ R q3) (okE_ok c X W sc o _ R q4) q5
            · cases h1
          | cst d => unfold okE okC at h1; cases h1
          | no => exact pt_no
          | _ => unfold okE at h1; cases h1
        · cases h2
    · cases h
  | .not a, X, W, sc, o, e, R, h => by
    unfold okTs at h
    split at h
    · exact pts_one (pt_not_ (okT_ok a X W sc o _ R h))
    · cases h
  | .and a b, X, W, sc, o, e, R, h => by
    unfold okTs at h
    split at h
    · simp only [Bool.and_eq_true] at h
      obtain ⟨h1, h2⟩ := h
      refine pts_one ?_
      split at h2
      · exact (pw_and_ (okT_ok a X W sc o _ R h1) (pw_and1_ (okT_ok b X W sc o _ R h2))).pt
      · exact (pw_and_ (okT_ok a X W sc o _ R h1) (pw_any (okT_ok b X W sc o _ R h2))).pt
    · cases h
  | .or a b, X, W, sc, o, e, R, h => by
    unfold okTs at h
    split at h
    · simp only [Bool.and_eq_true] at h
      obtain ⟨h1, h2⟩ := h
      refine pts_one ?_
      split at h2
      · exact (pw_or_ (okT_ok a X W sc o _ R h1) (pw_or1_ (okT_ok b X W sc o _ R h2))).pt
      · exact (pw_or_ (okT_ok a X W sc o _ R h1) (pw_any (okT_ok b X W sc o _ R h2))).pt
    · cases h
  | .ife c a b, X, W, sc, o, e, R, h => by
    unfold okTs at h
    split at h
    · simp only [Bool.and_eq_true] at h
      obtain ⟨⟨h1, h2⟩, h3⟩ := h
      exact pts_one (pt_ife_ (okT_ok c X W sc o _ R h1) (okT_ok a X W sc o _ R h2) (okT_ok b X W sc o _ R h3))
    · cases h
theorem okEs_s : ∀ (c : Es) (X : Cx) (W : WX) (sc : Scope) (o : Option Scope) (es : List Expr), CxR G N Γ φ k X W sc o → okEs G N c sc es = true → PA X es (Ts Γ φ W c)
  | .nil, X, W, sc, o, es, R, h => by
    unfold okEs at h
    cases es with
    | nil => exact ps_nil
    | cons e es => cases h
  | .cons m a r, X, W, sc, o, es, R, h => by
    unfold okEs at h
    split at h
    · simp only [Bool.and_eq_true] at h
      obtain ⟨⟨h1, h2⟩, h3⟩ := h
      exact ps_cons (okE_ok a X W sc o _ R h2) (okEs_s r X W sc o _ R h3) (star_plain h1)
    · cases h
theorem okEs_b : ∀ (c : Es) (X : Cx) (W : WX) (sc : Scope) (o : Option Scope) (es : List Expr), CxR G N Γ φ k X W sc o → okEs G N c sc es = true → PA X es (Tb Γ φ W c)
  | .nil, X, W, sc, o, es, R, h => by
    unfold okEs at h
    cases es with
    | nil => exact pb_nil
    | cons e es => cases h
  | .cons m a r, X, W, sc, o, es, R, h => by
    unfold okEs at h
    split at h
    · simp only [Bool.and_eq_true] at h
      obtain ⟨⟨h1, h2⟩, h3⟩ := h
      exact pb_cons (okE_ok a X W sc o _ R h2) (okEs_b r X W sc o _ R h3) (star_plain h1)
    · cases h
theorem okEs_l : ∀ (c : Es) (X : Cx) (W : WX) (sc : Scope) (o : Option Scope) (es : List Expr), CxR G N Γ φ k X W sc o → okEs G N c sc es = true → PA X es (Tl Γ φ W c)
  | .nil, X, W, sc, o, es, R, h => by
    unfold okEs at h
    cases es with
    | nil => exact pl_nil
    | cons e es => cases h
  | .cons m a r, X, W, sc, o, es, R, h => by
    unfold okEs at h
    split at h
    · simp only [Bool.and_eq_true] at h
      obtain ⟨⟨h1, h2⟩, h3⟩ := h
      exact pl_cons (okE_ok a X W sc o _ R h2) (okEs_l r X W sc o _ R h3) (star_plain h1)
    · cases h
theorem okO_ok : ∀ (c : Eo) (X : Cx) (W : WX) (sc : Scope) (o : Option Scope) (e : Option Expr), CxR G N Γ φ k X W sc o → okO G N c sc e = true → PO X e (To Γ φ W c)
  | .no, X, W, sc, o, e, R, h => by
    unfold okO at h
    cases e with
    | none => exact po_no
    | some e => cases h
  | .so a, X, W, sc, o, e, R, h => by
    unfold okO at h
    split at h
    · exact po_so (okE_ok a X W sc o _ R h)
    · cases h
theorem okI_ok : ∀ (c : Pv.It) (X : Cx) (W : WX) (sc : Scope) (o : Option Scope) (tg e : Expr), CxR G N Γ φ k X W sc o → okI G N c sc e = true → itTg c tg = true → PI X tg e (Ti Γ φ W c)
  | .ex a, X, W, sc, o, tg, e, R, h, ht => by
    unfold okI at h
    exact pi_ex R.K (okE_ok a X W sc o _ R h)
  | .rng1 a, X, W, sc, o, tg, e, R, h, ht => by
    unfold okI at h
    split at h
    · simp only [Bool.and_eq_true, decide_eq_true_eq] at h
      obtain ⟨⟨⟨rfl, h2⟩, h3⟩, h4⟩ := h
      obtain ⟨g1, m1, _, _⟩ := R.strict h2
      exact pi_rng1_ g1 m1 (okE_ok a X W sc o _ R h3) (star_plain h4)
    · cases h
  | .rng2 a b, X, W, sc, o, tg, e, R, h, ht => by
    unfold okI at h
    split at h
    · simp only [Bool.and_eq_true, decide_eq_true_eq] at h
      obtain ⟨⟨⟨⟨⟨rfl, h2⟩, h3⟩, h4⟩, h5⟩, h6⟩ := h
      obtain ⟨g1, m1, _, _⟩ := R.strict h2
      exact pi_rng2_ g1 m1 (okE_ok a X W sc o _ R h3) (okE_ok b X W sc o _ R h5) (by rw [star_plain h4, star_plain h6]; rfl) (star_plain h6)
    · cases h
  | .rng3 a b c, X, W, sc, o, tg, e, R, h, ht => by
    unfold okI at h
    split at h
    · simp only [Bool.and_eq_true, decide_eq_true_eq] at h
      obtain ⟨⟨⟨⟨⟨⟨⟨rfl, h2⟩, h3⟩, h4⟩, h5⟩, h6⟩, h7⟩, h8⟩ := h
      obtain ⟨g1, m1, _, _⟩ := R.strict h2
      exact pi_rng3_ g1 m1 (okE_ok a X W sc o _ R h3) (okE_ok b X W sc o _ R h5) (okE_ok c X W sc o _ R h7) (star_plain h4) (star_plain h6) (star_plain h8)
    · cases h
  | .zip a b, X, W, sc, o, tg, e, R, h, ht => by
    unfold okI at h
    split at h
    · simp only [Bool.and_eq_true, decide_eq_true_eq] at h
      obtain ⟨⟨⟨⟨⟨rfl, h2⟩, h3⟩, h4⟩, h5⟩, h6⟩ := h
      obtain ⟨g1, m1, _, _⟩ := R.strict h2
      cases tg with
      | Tuple elts kk tpos => exact pi_zip_ R.K g1 m1 (okE_ok a X W sc o _ R h3) (okE_ok b X W sc o _ R h5) (star_plain h4) (star_plain h6)
      | _ => cases ht
    · cases h
  | .enm a, X, W, sc, o, tg, e, R, h, ht => by
    unfold okI at h
    split at h
    · simp only [Bool.and_eq_true, decide_eq_true_eq] at h
      obtain ⟨⟨⟨rfl, h2⟩, h3⟩, h4⟩ := h
      obtain ⟨g1, m1, _, _⟩ := R.strict h2
      cases tg with
      | Tuple elts kk tpos => exact pi_enm_ R.K g1 m1 (okE_ok a X W sc o _ R h3) (star_plain h4)
      | _ => cases ht
    · cases h
end
end
end Pv

/-! Pv18: statements. -/
namespace Pv
open PySem PySem.Spec L2
open PyProof.Rows hiding St
/-- [..] on the line of its name -/
def swB (sc : Scope) (x : Str) (px lpos : Pos) (scope : Scope) : Bool := isLoc sc x && (px.line == lpos.line) && !(scope.names.any fun p => p.1 == x && (p.2 == .local || p.2 == .cell))
/-- the names of a tuple that are stored the other way round -/
def swNames (sc : Scope) (ts : List Expr) : List Str := ts.filterMap fun t => match t with
  | .Name id pos => if sc.names.lookup id == some .local && pos.line == (ts.head?.map (·.pos.line)).getD 0 then some id else none
  | _ => none
def swNo (sc : Scope) (ts : List Expr) (e : Expr) : Bool := match e with
  | .Tuple vs _ _ => ((swNames sc ts).length != ts.length) || vs.all (foldedForSure 8) || !(ts.length == 2 || ts.length == 3)
  | _ => true
/-- names stored at once -/
def okNs (N : List Str) (sc : Scope) : List Nat → List Expr → Bool
  | [], es => es.isEmpty
  | i :: is, es => match es with
    | .Name x _ :: es => decide (N[i]? = some x) && locB sc x && okNs N sc is es
    | _ => false
def okP2 (N : List Str) (sc : Scope) (is : List Nat) (tes vs : List Expr) : Bool := match is, tes, vs with
  | [i, j], [.Name x px, .Name y py], [u, v] => decide (N[i]? = some x) && decide (N[j]? = some y) && decide (i ≠ j) && decide (x ≠ y) && isLoc sc x && isLoc sc y && (py.line == px.line) && isPlain u && isPlain v &&
      !([u, v].all (foldedForSure 8)) && !([u, v].all (constantsAlone 8))
  | _, _, _ => false
def okP3 (N : List Str) (sc : Scope) (is : List Nat) (tes vs : List Expr) : Bool := match is, tes, vs with
  | [i, j, l], [.Name x px, .Name y py, .Name z pz], [u, v, w] => decide (N[i]? = some x) && decide (N[j]? = some y) && decide (N[l]? = some z) && decide (i ≠ j) && decide (i ≠ l) && decide (j ≠ l) && decide (x ≠ y) && decide (x ≠ z) && decide (y ≠ z) && isLoc sc x && isLoc sc y && isLoc sc z && (py.line == px.line) && (pz.line == px.line) && isPlain u && isPlain v && isPlain w &&
      !([u, v, w].all (foldedForSure 8)) && !([u, v, w].all (constantsAlone 8))
  | _, _, _ => false
/-! ### except suites -/
def okHI (G : CGl) (N : List Str) (sc : Scope) (o : Option Nat) : HI → Expr → Bool
  | .cst d, e => (match e with
    | .Constant c _ _ => (match c, d with
      | .int i, .int j => decide (i = j)
      | .str i, .str j => decide (i = j)
      | .bool i, .bl j => i == j
      | .none, .non => true
      | _, _ => false)
    | _ => false)
  | .plc, e => (match e, o with
    | .Attribute (.Name n _) f _, some i => decide (f = ("place" : Str)) && decide (N[i]? = some n) && visB sc n && nameOk n
    | _, _ => false)
  | .nam, e => (match e, o with
    | .Attribute (.Name n _) f _, some i => decide (f = ("name" : Str)) && decide (N[i]? = some n) && visB sc n && nameOk n
    | _, _ => false)
def okHIs (G : CGl) (N : List Str) (sc : Scope) (o : Option Nat) : List HI → List Expr → Bool
  | [], [] => true
  | h :: hs, e :: es => okHI G N sc o h e && isPlain e && okHIs G N sc o hs es
  | _, _ => false
def okXT (G : CGl) (N : List Str) (sc : Scope) (o : Option Nat) (e : Expr) : Bool := match e, o with
  | .Call (.Name f _) [.Name n _, .Name v _] [] _, some i => decide (f = ("isinstance" : Str)) && strictGl G sc f && decide (v = ("ValueError" : Str)) && strictGl G sc v && decide (N[i]? = some n) && visB sc n && nameOk n
  | _, _ => false
def okHE (G : CGl) (N : List Str) (sc : Scope) (o : Option Nat) : HE → Expr → Bool
  | .one h, e => okHI G N sc o h e
  | .tup hs, e => (match e with
    | .Tuple es _ _ => okHIs G N sc o hs es && decide (hs.length ≤ 100)
    | _ => false)
  | .isv a b, e => (match e with
    | .IfExp t u v _ => okXT G N sc o t && okHI G N sc o a u && okHI G N sc o b v
    | _ => false)
def okSu (G : CGl) (N : List Str) (sc : Scope) (o : Option Nat) : Su → List Stmt → Bool
  | .ret h, sts => (match sts with
    | [.Return (some e) _] => okHE G N sc o h e
    | _ => false)
  | .retIs h, sts => (match sts with
    | [.If t [.Return (some e) _] [] _] => okXT G N sc o t && okHE G N sc o h e
    | _ => false)
  | .pass, sts => (match sts with
    | [.Pass _] => true
    | _ => false)
  | .app j h, sts => (match sts with
    | [.Expr (.Call (.Attribute (.Name w _) name apos) [e] [] cpos) _] => decide (name = ("append" : Str)) && decide (N[j]? = some w) && visB sc w && nameOk w && okHI G N sc o h e && isPlain e && (apos.endLine == cpos.line)
    | _ => false)
def okHds (G : CGl) (N : List Str) (sc : Scope) : List (Nat × Su) → List ExceptHandler → Bool
  | [], [] => true
  | (c, su) :: l, hd :: hds => (match hd with
    | .ExceptHandler (some (.Name x _)) none (b₀ :: suite) _ => decide (G.xcs[c]? = some x) && glB sc x && nameOk x && okSu G N sc none su (b₀ :: suite)
    | _ => false) && okHds G N sc l hds
  | _, _ => false
section
variable {G : CGl} {N : List Str} {Γ : Gm} {φ : Phi} {k : Nat} {X : Cx} {W : WX} {sc : Scope} {a : Addr} {oe : Obj} {cls : Value} {d : Option Addr} {pn : List (Addr × Obj)} {o : Option Nat}
theorem CxR.xall (R : CxR G N Γ φ k X W sc none) : Xs Γ X := fun c hc => by
  have hl : c < G.xcs.length := by rw [R.xn]; exact hc
  exact ⟨_, (R.xs c _ (List.getElem?_eq_getElem hl)).2⟩
theorem okHI_ok (R : CxR G N Γ φ k X W sc none) (hz : Zc cls d oe) (hf : ∃ vs, oe.data = .fields vs) {h : HI} {e : Expr} (hk : okHI G N sc o h e = true) : PE (X.suite a ((a, oe) :: pn)) e (tHI Γ h o a cls d) := by
  have fld : ∀ {b : Bool} {i : Nat} {n f : Str} {p pos : Pos}, N[i]? = some n → visB sc n = true → nameOk n = true → f = PySem.Str.ofString (if b then "place" else "name") → PE (X.suite a ((a, oe) :: pn)) (.Attribute (.Name n p) f pos) (tHI Γ (if b then .plc else .nam) (some i) a cls d) :=
    fun {b i n f p pos} h1 h2 h3 h4 => hi_fld R.K R.xall hz hf (by rw [R.nN]; exact h1) (by rw [R.sc]; exact vis_of h2) (nameOk_of h3).1 (nameOk_of h3).2.1 h4
  cases h with
  | cst d' =>
    simp only [okHI] at hk
    split at hk
    · split at hk
      · rw [of_decide_eq_true hk]; exact hi_cst pe_int (by rw [Rep])
      · rw [of_decide_eq_true hk]; exact hi_cst pe_str (by rw [Rep])
      · rw [beq_iff_eq.mp hk]; exact hi_cst pe_bl (by rw [Rep])
      · exact hi_cst pe_non (by rw [Rep])
      · cases hk
    · cases hk
  | plc =>
    simp only [okHI] at hk
    split at hk
    · simp only [Bool.and_eq_true, decide_eq_true_eq] at hk
      obtain ⟨⟨⟨h1, h2⟩, h3⟩, h4⟩ := hk
      exact fld (b := true) h2 h3 h4 h1
    · cases hk
  | nam =>
    simp only [okHI] at hk
    split at hk
    · simp only [Bool.and_eq_true, decide_eq_true_eq] at hk
      obtain ⟨⟨⟨h1, h2⟩, h3⟩, h4⟩ := hk
      exact fld (b := false) h2 h3 h4 h1
    · cases hk
theorem okHIs_ok (R : CxR G N Γ φ k X W sc none) (hz : Zc cls d oe) (hf : ∃ vs, oe.data = .fields vs) : ∀ {hs : List HI} {es : List Expr}, okHIs G N sc o hs es = true → PA (X.suite a ((a, oe) :: pn)) es (tHIs Γ hs o a cls d)
  | [], [], _ => his_nil
  | h :: hs, e :: es, hk => by
    simp only [okHIs] at hk
    simp only [Bool.and_eq_true] at hk
    exact his_cons (okHI_ok R hz hf hk.1.1) (okHIs_ok R hz hf hk.2) (star_plain hk.1.2)
  | [], _ :: _, hk => by cases hk
  | _ :: _, [], hk => by cases hk
theorem okXT_ok (R : CxR G N Γ φ k X W sc none) (hz : Zc cls d oe) (hf : ∃ vs, oe.data = .fields vs) {e : Expr} (hk : okXT G N sc o e = true) : PT (X.suite a ((a, oe) :: pn)) e (tXT Γ o a cls d) := by
  simp only [okXT] at hk
  split at hk
  · simp only [Bool.and_eq_true, decide_eq_true_eq] at hk
    obtain ⟨⟨⟨⟨⟨⟨rfl, h1⟩, rfl⟩, h2⟩, h3⟩, h4⟩, h5⟩ := hk
    obtain ⟨g1, m1, _, _⟩ := R.strict h1
    obtain ⟨g2, m2, _, _⟩ := R.strict h2
    exact xt_is R.xall hz hf (by rw [R.nN]; exact h3) (by rw [R.sc]; exact vis_of h4) (nameOk_of h5).1 (nameOk_of h5).2.1 g1 m1 g2 m2
  · cases hk
theorem okHE_ok (R : CxR G N Γ φ k X W sc none) (hz : Zc cls d oe) (hf : ∃ vs, oe.data = .fields vs) {h : HE} {e : Expr} (hk : okHE G N sc o h e = true) : PE (X.suite a ((a, oe) :: pn)) e (tHE Γ h o a cls d) := by
  cases h with
  | one h => exact he_one (okHI_ok R hz hf hk)
  | tup hs =>
    simp only [okHE] at hk
    split at hk
    · simp only [Bool.and_eq_true, decide_eq_true_eq] at hk
      exact he_tup hk.2 (okHIs_ok R hz hf hk.1)
    · cases hk
  | isv u v =>
    simp only [okHE] at hk
    split at hk
    · simp only [Bool.and_eq_true] at hk
      exact he_isv (okXT_ok R hz hf hk.1.1) (okHI_ok R hz hf hk.1.2) (okHI_ok R hz hf hk.2)
    · cases hk
theorem okSu_ok (R : CxR G N Γ φ k X W sc none) (hz : Zc cls d oe) (hf : ∃ vs, oe.data = .fields vs) {su : Su} {sts : List Stmt} (hk : okSu G N sc o su sts = true) : PSs (X.suite a ((a, oe) :: pn)) sts (tSu Γ su o a cls d) := by
  cases su with
  | ret h =>
    simp only [okSu] at hk
    split at hk
    · exact su_ret (okHE_ok R hz hf hk)
    · cases hk
  | retIs h =>
    simp only [okSu] at hk
    split at hk
    · simp only [Bool.and_eq_true] at hk
      exact su_retIs (okXT_ok R hz hf hk.1) (okHE_ok R hz hf hk.2)
    · cases hk
  | pass =>
    simp only [okSu] at hk
    split at hk
    · exact su_pass
    · cases hk
  | app j h =>
    simp only [okSu] at hk
    split at hk
    · simp only [Bool.and_eq_true, decide_eq_true_eq] at hk
      obtain ⟨⟨⟨⟨⟨⟨rfl, h1⟩, h2⟩, h3⟩, h4⟩, h5⟩, h6⟩ := hk
      exact su_app (by rw [R.nN]; exact h1) (by rw [R.sc]; exact vis_of h2) (nameOk_of h3).1 (nameOk_of h3).2.1 (okHI_ok R hz hf h4) (star_plain h5) h6
    · cases hk
theorem CxR.nm (R : CxR G N Γ φ k X W sc none) {c : Nat} {x : Str} (h1 : G.xcs[c]? = some x) (h2 : glB sc x = true) (h3 : nameOk x = true) : Names X x (.ref (Γ.cl c)) ∧ ∀ j, j < Γ.n → PySem.W.exmOne X.K (.ref (Γ.cl j)) (.ref (Γ.cl c)) = some (clsB c j) :=
  ⟨⟨R.gl h2, (nameOk_of h3).1, .inl (R.xs c x h1).1⟩, fun j hj => R.xm c j (by rw [← R.xn]; exact (List.getElem?_eq_some_iff.mp h1).1) hj⟩
theorem okHds_ok (R : CxR G N Γ φ k X W sc none) : ∀ {l : List (Nat × Su)} {hds : List ExceptHandler}, okHds G N sc l hds = true → HdsAt Γ X l hds
  | [], [], _ => .nil
  | (c, su) :: l, hd :: hds, hk => by
    simp only [okHds] at hk
    rw [Bool.and_eq_true] at hk
    refine .cons ?_ (okHds_ok R hk.2)
    have hk := hk.1
    split at hk
    · simp only [Bool.and_eq_true, decide_eq_true_eq] at hk
      obtain ⟨⟨⟨h1, h2⟩, h3⟩, h4⟩ := hk
      obtain ⟨n1, n2⟩ := R.nm h1 h2 h3
      exact ⟨⟨_, _, _, _, _, rfl, n1, fun a oe cls d pn hz hf => okSu_ok R hz hf h4⟩, n2⟩
    · cases hk
  | [], _ :: _, hk => by cases hk
  | _ :: _, [], hk => by cases hk
end
mutual
def okS (G : CGl) (N : List Str) (sc : Scope) : S → Stmt → Bool
  | .asg (.name i) c, st => match st with
    | .Assign [.Name x px] e pos => decide (N[i]? = some x) && locB sc x && okE G N c sc e && (match e with
      | .ListComp .. => true
      | e => !isComp e)
    | _ => false
  | .asg (.tup ts) c, st => match st with
    | .Assign [.Tuple tes _ _] e _ => okE G N c sc e && okTgs N none sc ts tes && swNo sc tes e
    | _ => false
  | .par i j a b, st => match st with
    | .Assign [.Tuple [.Name x px, .Name y py] _ _] (.Tuple [u, v] _ _) _ => decide (N[i]? = some x) && decide (N[j]? = some y) && decide (i ≠ j) && decide (x ≠ y) && isLoc sc x && isLoc sc y && (py.line == px.line) && okE G N a sc u && okE G N b sc v && isPlain u && isPlain v &&
        !([u, v].all (foldedForSure 8)) && !([u, v].all (constantsAlone 8))
    | _ => false
  | .aug i op c, st => match st with
    | .AugAssign (.Name x _) op' e _ => decide (N[i]? = some x) && locB sc x && decide (op = op') && okE G N c sc e
    | _ => false
  | .app i c, st => match st with
    | .Expr (.Call (.Attribute (.Name x p) name apos) [e] [] cpos) _ => decide (name = ("append" : Str)) && okE G N (.var i) sc (.Name x p) && okE G N c sc e && isPlain e && (apos.endLine == cpos.line)
    | _ => false
  | .seti i ck c, st => match st with
    | .Assign [.Subscript (.Name x p) k _] e _ => okE G N (.var i) sc (.Name x p) && okE G N ck sc k && !isSl k && okE G N c sc e
    | _ => false
  | .expr c, st => match st with
    | .Expr e _ => okE G N c sc e && !isComp e
    | _ => false
  | .iff c a b, st => match st with
    | .If t p q _ => okT G N c sc t && okSs G N sc a p && okSs G N sc b q
    | _ => false
  | .whl c b, st => match st with
    | .While t p [] _ => okT G N c sc t && okSs G N sc b p
    | _ => false
  | .fr t it b, st => match st with
    | .For tg e p [] _ => okTg N none sc t tg && okI G N it sc e && !isSet e && okSs G N sc b p && itTg it tg
    | _ => false
  | .ret c, st => match st with
    | .Return (some e) _ => okE G N c sc e
    | _ => false
  | .retN, st => match st with
    | .Return none _ => true
    | _ => false
  | .pass, st => match st with
    | .Pass _ => true
    | .Expr (.Constant (.str _) _ _) _ => true
    | _ => false
  | .brk, st => match st with
    | .Break _ => true
    | _ => false
  | .cont, st => match st with
    | .Continue _ => true
    | _ => false
  | .rse c z ce, st => match st with
    | .Raise (some (.Call (.Name x _) [e] [] _)) none _ => decide (G.xcs[c]? = some x) && decide (z = x) && glB sc x && nameOk x && okE G N ce sc e && isPlain e
    | _ => false
  | .tryAs b c i su, st => match st with
    | .Try body [.ExceptHandler (some (.Name x _)) (some n) (b₀ :: suite) _] [] [] _ => decide (G.xcs[c]? = some x) && glB sc x && nameOk x && decide (N[i]? = some n) && isLoc sc n && okSs G N sc b body && okSu G N sc (some i) su (b₀ :: suite)
    | _ => false
  | .tryM b hs, st => match st with
    | .Try body (h₀ :: hds) [] [] _ => okSs G N sc b body && okHds G N sc hs (h₀ :: hds)
    | _ => false
  | .asgT i g c, st => match st with
    | .Assign [.Name x px] e pos => decide (N[i]? = some x) && locB sc x && okE G N c sc e && !isComp e && (match N[g]? with
      | some y => !visB sc y
      | none => false)
    | _ => false
  | .gset i g ck c, st => match st with
    | .Assign [.Subscript (.Name x p) k _] e _ => okE G N (.ali i g) sc (.Name x p) && okE G N ck sc k && !isSl k && okE G N c sc e
    | _ => false
  | .gpop i g, st => match st with
    | .Expr (.Call (.Attribute (.Name x p) name apos) [.Constant (.int 0) _ _] [] cpos) _ => decide (name = ("pop" : Str)) && okE G N (.ali i g) sc (.Name x p) && (apos.endLine == cpos.line)
    | _ => false
  | .no, _ => true
  | .mpar is ces, st => match st with
    | .Assign [.Tuple tes _ _] (.Tuple vs k2 p2) _ => okEs G N ces sc vs && decide (is.length ≤ 1000) && (okP2 N sc is tes vs || okP3 N sc is tes vs || (okNs N sc is tes && swNo sc tes (.Tuple vs k2 p2)))
    | _ => false
def okSs (G : CGl) (N : List Str) (sc : Scope) : Ss → List Stmt → Bool
  | .nil, sts => sts.isEmpty
  | .cons c r, sts => match sts with
    | st :: sts => okS G N sc c st && okSs G N sc r sts
    | [] => false
end
theorem swaps_tup {ts : List Expr} {k : Nat} {p : Pos} {e : Expr} {l : Nat} {env : PySem.Env} : swapsWithSole [.Tuple ts k p] e l env = pure false := by
  cases e <;> rfl
theorem swaps_sub {a b : Expr} {p : Pos} {e : Expr} {l : Nat} {env : PySem.Env} : swapsWithSole [.Subscript a b p] e l env = pure false := by
  cases e <;> rfl
theorem swaps_lc {elt : Expr} {gs : List Comprehension} {scope : Scope} {lpos px : Pos} {x : Str} {l : Nat} {env : PySem.Env} (hk : env.blockKind = .function) :
    swapsWith (.ListComp elt gs scope lpos) (some (.Name x px)) l env = pure (swB env.scope x px lpos scope) := by
  have e : swapsWith (.ListComp elt gs scope lpos) (some (.Name x px)) l env = pure (env.blockKind == .function && env.kindOf x == some .local && px.line == lpos.line
      && !(scope.names.any fun p => p.1 == x && (p.2 == .local || p.2 == .cell))) := by rfl
  rw [e, hk]
  have e2 : isLoc env.scope x = (env.kindOf x == some .local) := by
    unfold isLoc
    show _ = (env.scope.names.lookup x == some .local)
    cases env.scope.names.lookup x with
    | none => rfl
    | some w => cases w <;> rfl
  unfold swB
  rw [e2]
  rfl
theorem sw_none {ts : List Expr} {k : Nat} {p : Pos} {e : Expr} {env : PySem.Env} (h : swNo env.scope ts e = true) : swappedStores [.Tuple ts k p] e env = pure none := by
  cases e with
  | Tuple vs k2 p2 =>
    unfold swNo at h
    dsimp only at h
    unfold swappedStores
    dsimp only
    split
    · rfl
    · rename_i h0
      split
      · rfl
      · split
        · rfl
        · split
          · rfl
          · rename_i h1 h2 h3
            simp only [Bool.or_eq_true] at h
            rcases h with (h | h) | h
            · simp only [Bool.or_eq_true, not_or] at h2
              exact absurd h h2.1
            · exact absurd h h3
            · simp only [Bool.or_eq_true, not_or] at h0
              exact absurd h h0.1.1
  | _ => rfl
theorem isLoc_beq {sc : Scope} {x : Str} (h : isLoc sc x = true) : (sc.names.lookup x == some NameKind.local) = true := by rw [isLoc_of h]; rfl
def stB (e : Expr) : Bool := match e with
  | .Starred .. => true
  | _ => false
theorem stB_of {e : Expr} (h : isPlain e = true) : stB e = false := by
  cases e with
  | Starred a b => cases h
  | _ => rfl
theorem sw_some {x y : Str} {px py pt p2 : Pos} {kt k2 : Nat} {u v : Expr} {env : PySem.Env} (hk : env.blockKind = .function) (hx : isLoc env.scope x = true) (hy : isLoc env.scope y = true) (hxy : x ≠ y) (hl : (py.line == px.line) = true) (hu : isPlain u = true) (hv : isPlain v = true)
    (h1 : [u, v].all (foldedForSure 8) = false) (h2 : [u, v].all (constantsAlone 8) = false) : swappedStores [.Tuple [.Name x px, .Name y py] kt pt] (.Tuple [u, v] k2 p2) env = pure (some [x, y]) := by
  have kx : env.kindOf x = some .local := isLoc_of hx
  have ky : env.kindOf y = some .local := isLoc_of hy
  have l1 : (px.line == px.line) = true := by simp
  have d : [x, y].eraseDups.length = 2 := by
    have hyx : (y == x) = false := by simpa using Ne.symm hxy
    simp [List.eraseDups_cons, hyx]
  have st : ¬ ([u, v].any stB = true) := by
    have e1 := stB_of hu
    have e2 := stB_of hv
    simp [e1, e2]
  unfold swappedStores
  simp only [hk, kx, ky, l1, hl, Expr.pos, List.head?_cons, Option.map_some, Option.getD_some, List.filterMap_cons, List.filterMap_nil, Bool.and_self, beq_self_eq_true, if_true, h1, h2, d, List.length_cons, List.length_nil]
  exact (if_neg (by decide)).trans ((if_neg st).trans ((if_neg (by decide)).trans rfl))
theorem sw_some3 {x y z : Str} {px py pz pt p2 : Pos} {kt k2 : Nat} {u v w : Expr} {env : PySem.Env} (hk : env.blockKind = .function) (hx : isLoc env.scope x = true) (hy : isLoc env.scope y = true) (hz : isLoc env.scope z = true) (hxy : x ≠ y) (hxz : x ≠ z) (hyz : y ≠ z) (hl : (py.line == px.line) = true) (hl2 : (pz.line == px.line) = true)
    (hu : isPlain u = true) (hv : isPlain v = true) (hw : isPlain w = true) (h1 : [u, v, w].all (foldedForSure 8) = false) (h2 : [u, v, w].all (constantsAlone 8) = false) : swappedStores [.Tuple [.Name x px, .Name y py, .Name z pz] kt pt] (.Tuple [u, v, w] k2 p2) env = pure (some [x, y, z]) := by
  have kx : env.kindOf x = some .local := isLoc_of hx
  have ky : env.kindOf y = some .local := isLoc_of hy
  have kz : env.kindOf z = some .local := isLoc_of hz
  have l1 : (px.line == px.line) = true := by simp
  have d : [x, y, z].eraseDups.length = 3 := by
    have hyx : (y == x) = false := by simpa using Ne.symm hxy
    have hzx : (z == x) = false := by simpa using Ne.symm hxz
    have hzy : (z == y) = false := by simpa using Ne.symm hyz
    simp [List.eraseDups_cons, hyx, hzx, hzy]
  have st : ¬ ([u, v, w].any stB = true) := by
    have e1 := stB_of hu
    have e2 := stB_of hv
    have e3 := stB_of hw
    simp [e1, e2, e3]
  unfold swappedStores
  simp only [hk, kx, ky, kz, l1, hl, hl2, Expr.pos, List.head?_cons, Option.map_some, Option.getD_some, List.filterMap_cons, List.filterMap_nil, Bool.and_self, beq_self_eq_true, if_true, h1, h2, d, List.length_cons, List.length_nil]
  exact (if_neg (by decide)).trans ((if_neg st).trans ((if_neg (by decide)).trans rfl))
/-- where a def's statements stand -/
structure CxS (G : CGl) (N : List Str) (Γ : Gm) (φ : Phi) (k : Nat) (X : Cx) (W : WX) (sc : Scope) : Prop where
  R : CxR G N Γ φ k X W sc none
  hp : PassesOwn (model X.prog X.w) X.A X.env X.xe
  bk : X.env.blockKind = .function
  stk : X.stack = X.env :: X.outer
  fr : X.env.frame = some X.env.locals
theorem CxS.tr {G : CGl} {N : List Str} {Γ : Gm} {φ : Phi} {k : Nat} {X : Cx} {W W' : WX} {sc : Scope} (R : CxS G N Γ φ k X W sc) {pn : List (Addr × Obj)} {xe : Value → Shared → Prop} (tk : Takes (X.tr pn xe) W') (hp : PassesOwn (model X.prog X.w) X.A X.env xe) :
    CxS G N Γ φ k (X.tr pn xe) W' sc :=
  ⟨⟨R.R.K, R.R.nN, R.R.nd, R.R.calm, R.R.sc, R.R.fn, tk, R.R.rm, R.R.cst, R.R.fns, R.R.blt, R.R.xn, R.R.xs, R.R.xm⟩, hp, R.bk, R.stk, R.fr⟩
section
variable {G : CGl} {N : List Str} {Γ : Gm} {φ : Phi} {k : Nat} {X : Cx} {W : WX} {sc : Scope}
theorem CxS.fnx (R : CxS G N Γ φ k X W sc) (x : Str) : X.fn x = true := R.R.fn x fun s z => by cases z
theorem s_lc (R : CxS G N Γ φ k X W sc) {i : Nat} {x : Str} {px lpos pos : Pos} {elt : Expr} {gs : List Comprehension} {scope : Scope} {c : E} (h1 : N[i]? = some x) (h2 : locB sc x = true) (h : okE G N c sc (.ListComp elt gs scope lpos) = true) :
    PS X (.Assign [.Name x px] (.ListComp elt gs scope lpos) pos) (tS Γ φ W (.asg (.name i) c)) := by
  have hN : X.N.Nodup := by rw [R.R.nN]; exact R.R.nd
  have hi : X.N[i]? = some x := by rw [R.R.nN]; exact h1
  have hx : Loc X.env.scope x := by rw [R.R.sc]; exact loc_of h2
  have sw := swaps_lc (elt := elt) (gs := gs) (scope := scope) (lpos := lpos) (px := px) (x := x) (l := pos.line) R.bk
  cases q : swB X.env.scope x px lpos scope with
  | false => exact s_asg hN hi hx (okE_ok c X W sc none _ R.R h) (by rw [sw, q]) (.inl (R.fnx x))
  | true =>
    have ql : isLoc X.env.scope x = true := by
      unfold swB at q
      simp only [Bool.and_eq_true] at q
      exact q.1.1
    cases c with
    | lc elt' tg it c vs =>
      unfold okE at h
      split at h
      · rename_i x t itx ifs j scope pos e1
        cases e1
        simp only [Bool.and_eq_true, decide_eq_true_eq, Bool.not_eq_true'] at h
        obtain ⟨⟨⟨⟨⟨⟨⟨⟨⟨rfl, h2⟩, h3⟩, h4⟩, h5⟩, h6⟩, h7⟩, h8⟩, h9⟩, h10⟩ := h
        refine s_asgLc R.R.calm hN hi (isLoc_of ql) (by rw [sw, q]) (okI_ok it X W sc none _ _ R.R h5 h10) (by rw [R.R.nN, R.R.sc]; exact blkOk_by h2) h3 (fun i hi => ?_) (fun s H C cl fp => okTg_ok (R.R.blk s H scope C cl fp) tg t h7) (fun s H C cl fp => okTs_ok c _ _ _ _ _ (R.R.blk s H scope C cl fp) h8)
          (fun s H C cl fp => okE_ok elt' _ _ _ _ _ (R.R.blk s H scope C cl fp) h9) (folded_of h6)
        exact of_decide_eq_true (List.all_eq_true.mp h4 i hi)
      · cases h
    | cst d => unfold okE okC at h; cases h
    | no => exact ⟨fun pins s σ H D I q => by
        obtain ⟨F, ρ, ok, q⟩ := q
        rw [run, ev] at q
        exact q.elim⟩
    | _ => unfold okE at h; cases h
theorem okEs_m : ∀ (c : Es) (es : List Expr), CxS G N Γ φ k X W sc → okEs G N c sc es = true → PA X es (Tm Γ φ W c)
  | .nil, es, R, h => by
    unfold okEs at h
    cases es with
    | nil => exact pm_nil
    | cons e es => cases h
  | .cons m a r, es, R, h => by
    unfold okEs at h
    split at h
    · simp only [Bool.and_eq_true] at h
      obtain ⟨⟨h1, h2⟩, h3⟩ := h
      exact pm_cons (okE_ok a X W sc none _ R.R h2) (okEs_m r _ R h3) (star_plain h1)
    · cases h
theorem okNs_ok (R : CxS G N Γ φ k X W sc) : ∀ (is : List Nat) (es : List Expr), okNs N sc is es = true → PGs X es (gNs is) ∧ (assignEach es X.env).length = is.length ∧ (assignEach es X.env).findIdx? (·.1) = none
  | [], es, h => by
    unfold okNs at h
    cases es with
    | nil => exact ⟨pgs_nil, rfl, rfl⟩
    | cons e es => cases h
  | i :: is, es, h => by
    unfold okNs at h
    split at h
    · rename_i x p es
      simp only [Bool.and_eq_true, decide_eq_true_eq] at h
      obtain ⟨⟨h1, h2⟩, h3⟩ := h
      obtain ⟨q1, q2, q3⟩ := okNs_ok R is es h3
      have he : assignEach (.Name x p :: es) X.env = (false, assign (.Name x p) X.env) :: assignEach es X.env := rfl
      exact ⟨pgs_cons (pg_name (by rw [R.R.nN]; exact R.R.nd) (by rw [R.R.nN]; exact h1) (by rw [R.R.sc]; exact loc_of h2) (.inl (R.fnx x))) q1 (by rw [he]; rfl), by rw [he]; simp [q2], by rw [he, List.findIdx?_cons]; simp [q3]⟩
    · cases h
mutual
theorem okS_ok : ∀ (c : S) (X : Cx) (W : WX) (R : CxS G N Γ φ k X W sc) (st : Stmt), okS G N sc c st = true → PS X st (tS Γ φ W c)
  | .asg (.name i) c, X, W, R, st, h => by
    unfold okS at h
    split at h
    · rename_i x px e pos
      simp only [Bool.and_eq_true, decide_eq_true_eq] at h
      obtain ⟨⟨⟨h1, h2⟩, h3⟩, h4⟩ := h
      split at h4
      · exact s_lc R h1 h2 h3
      · simp only [Bool.not_eq_true'] at h4
        exact s_asg (by rw [R.R.nN]; exact R.R.nd) (by rw [R.R.nN]; exact h1) (by rw [R.R.sc]; exact loc_of h2) (okE_ok c X W sc none _ R.R h3) (swaps_of h4) (.inl (R.fnx x))
    · cases h
  | .asg (.tup ts) c, X, W, R, st, h => by
    unfold okS at h
    split at h
    · simp only [Bool.and_eq_true] at h
      obtain ⟨⟨h1, h2⟩, h3⟩ := h
      exact s_asgT (okE_ok c X W sc none _ R.R h1) (okTg_ok R.R (.tup ts) _ (by unfold okTg; exact h2)) swaps_tup (sw_none (by rw [R.R.sc]; exact h3)) (by rfl)
    · cases h
  | .par i j a b, X, W, R, st, h => by
    unfold okS at h
    split at h
    · simp only [Bool.and_eq_true, decide_eq_true_eq, Bool.not_eq_true'] at h
      obtain ⟨⟨⟨⟨⟨⟨⟨⟨⟨⟨⟨⟨h1, h2⟩, h3⟩, h4⟩, h5⟩, h6⟩, h7⟩, h8⟩, h9⟩, h10⟩, h11⟩, h12⟩, h13⟩ := h
      refine s_par R.R.calm (by rw [R.R.nN]; exact R.R.nd) (by rw [R.R.nN]; exact h1) (by rw [R.R.nN]; exact h2) h3 (by rw [R.R.sc]; exact isLoc_of h5) (by rw [R.R.sc]; exact isLoc_of h6)
        (ps_cons (okE_ok a X W sc none _ R.R h8) (ps_cons (okE_ok b X W sc none _ R.R h9) ps_nil (star_plain h11)) (star_plain h10)) (sw_some R.bk (by rw [R.R.sc]; exact h5) (by rw [R.R.sc]; exact h6) h4 h7 h10 h11 h12 h13) swaps_tup
    · cases h
  | .aug i op c, X, W, R, st, h => by
    unfold okS at h
    split at h
    · rename_i x px op' e pos
      simp only [Bool.and_eq_true, decide_eq_true_eq] at h
      obtain ⟨⟨⟨h1, h2⟩, rfl⟩, h4⟩ := h
      exact s_aug (by rw [R.R.nN]; exact R.R.nd) (by rw [R.R.nN]; exact h1) (by rw [R.R.sc]; exact loc_of h2) (okE_ok c X W sc none _ R.R h4) (.inl (R.fnx x))
    · cases h
  | .app i c, X, W, R, st, h => by
    unfold okS at h
    split at h
    · simp only [Bool.and_eq_true, decide_eq_true_eq] at h
      obtain ⟨⟨⟨⟨rfl, h2⟩, h3⟩, h4⟩, h5⟩ := h
      exact s_app R.R.K (okE_ok (.var i) X W sc none _ R.R h2) (okE_ok c X W sc none _ R.R h3) (by rfl) h5 (star_plain h4) (by rfl)
    · cases h
  | .seti i ck c, X, W, R, st, h => by
    unfold okS at h
    split at h
    · rename_i x p kx tpos e pos
      simp only [Bool.and_eq_true, Bool.not_eq_true'] at h
      obtain ⟨⟨⟨h1, h2⟩, h3⟩, h4⟩ := h
      exact s_seti R.R.K (okE_ok (.var i) X W sc none _ R.R h1) (okE_ok ck X W sc none _ R.R h2) (okE_ok c X W sc none _ R.R h4) (fun v => by cases kx <;> first | rfl | cases h3) swaps_sub (by cases e <;> rfl) (by rfl)
    · cases h
  | .expr c, X, W, R, st, h => by
    unfold okS at h
    split at h
    · simp only [Bool.and_eq_true, Bool.not_eq_true'] at h
      exact s_expr (okE_ok c X W sc none _ R.R h.1) (swaps_of h.2)
    · cases h
  | .iff c a b, X, W, R, st, h => by
    unfold okS at h
    split at h
    · simp only [Bool.and_eq_true] at h
      obtain ⟨⟨h1, h2⟩, h3⟩ := h
      exact s_if (okT_ok c X W sc none _ R.R h1) (okSs_ok a X W R _ h2) (okSs_ok b X W R _ h3)
    · cases h
  | .whl c b, X, W, R, st, h => by
    unfold okS at h
    split at h
    · simp only [Bool.and_eq_true] at h
      exact s_whl R.hp (okT_ok c X W sc none _ R.R h.1) (okSs_ok b X W R _ h.2)
    · cases h
  | .fr t it b, X, W, R, st, h => by
    unfold okS at h
    split at h
    · simp only [Bool.and_eq_true, Bool.not_eq_true'] at h
      obtain ⟨⟨⟨⟨h1, h2⟩, h3⟩, h4⟩, h5⟩ := h
      exact s_for R.hp R.R.calm (okI_ok it X W sc none _ _ R.R h2 h5) (okTg_ok R.R t _ h1) (okSs_ok b X W R _ h4) (folded_of h3)
    · cases h
  | .ret c, X, W, R, st, h => by
    unfold okS at h
    split at h
    · exact s_ret (okE_ok c X W sc none _ R.R h)
    · cases h
  | .retN, X, W, R, st, h => by
    unfold okS at h
    split at h
    · exact s_retN
    · cases h
  | .pass, X, W, R, st, h => by
    unfold okS at h
    split at h
    · exact s_pass
    · exact s_doc
    · cases h
  | .brk, X, W, R, st, h => by
    unfold okS at h
    split at h
    · exact s_brk
    · cases h
  | .cont, X, W, R, st, h => by
    unfold okS at h
    split at h
    · exact s_cont
    · cases h
  | .rse c z ce, X, W, R, st, h => by
    unfold okS at h
    split at h
    · simp only [Bool.and_eq_true, decide_eq_true_eq] at h
      obtain ⟨⟨⟨⟨⟨h1, rfl⟩, h3⟩, h4⟩, h5⟩, h6⟩ := h
      obtain ⟨hm, C⟩ := R.R.xs _ _ h1
      exact s_rse R.R.calm R.R.K R.R.tk C (by rw [← R.R.xn]; exact (List.getElem?_eq_some_iff.mp h1).1) (R.R.rm.mono (Nat.zero_le _)) (R.R.gl h3) hm (okE_ok ce X W sc none _ R.R h5) (nameOk_of h4).1 (star_plain h6)
    · cases h
  | .tryAs b c i su, X, W, R, st, h => by
    unfold okS at h
    split at h
    · simp only [Bool.and_eq_true, decide_eq_true_eq] at h
      obtain ⟨⟨⟨⟨⟨⟨h1, h2⟩, h3⟩, h4⟩, h5⟩, h6⟩, h7⟩ := h
      obtain ⟨n1, n2⟩ := R.R.nm h1 h2 h3
      exact s_tryAs R.stk R.fr (by rw [R.R.nN]; exact R.R.nd) (by rw [R.R.nN]; exact h4) (by show X.env.scope.names.lookup _ = _; rw [R.R.sc]; exact isLoc_of h5) n1 R.R.tk n2
        (fun W' pn xe tk hp => okSs_ok b _ _ (R.tr tk hp) _ h6) (fun a oe cls d pn hz hf => okSu_ok R.R hz hf h7)
    · cases h
  | .tryM b hs, X, W, R, st, h => by
    unfold okS at h
    split at h
    · simp only [Bool.and_eq_true] at h
      exact s_tryM R.stk R.fr R.R.tk (okHds_ok R.R h.2) (fun W' pn xe tk hp => okSs_ok b _ _ (R.tr tk hp) _ h.1)
    · cases h
  | .asgT i g c, X, W, R, st, h => by
    unfold okS at h
    split at h
    · rename_i x px e pos
      simp only [Bool.and_eq_true, decide_eq_true_eq, Bool.not_eq_true'] at h
      obtain ⟨⟨⟨⟨h1, h2⟩, h3⟩, h4⟩, h5⟩ := h
      split at h5
      · rename_i y hy
        exact s_tape (by rw [R.R.nN]; exact R.R.nd) (by rw [R.R.nN]; exact h1) (by rw [R.R.sc]; exact loc_of h2) (okE_ok c X W sc none _ R.R h3) (swaps_of h4) (.inl (R.fnx x)) (by rw [R.R.nN]; exact hy) fun v => by
          rw [R.R.sc] at v
          simp only [Bool.not_eq_true'] at h5
          unfold visB at h5
          rcases v with v | v | v <;> (rw [v] at h5; cases h5)
      · cases h5
    · cases h
  | .gset i g ck c, X, W, R, st, h => by
    unfold okS at h
    split at h
    · rename_i x p kx tpos e pos
      simp only [Bool.and_eq_true, Bool.not_eq_true'] at h
      obtain ⟨⟨⟨h1, h2⟩, h3⟩, h4⟩ := h
      exact s_gset R.R.K (okE_ok (.ali i g) X W sc none _ R.R h1) (okE_ok ck X W sc none _ R.R h2) (okE_ok c X W sc none _ R.R h4) (fun v => by cases kx <;> first | rfl | cases h3) swaps_sub (by cases e <;> rfl) (by rfl)
    · cases h
  | .gpop i g, X, W, R, st, h => by
    unfold okS at h
    split at h
    · simp only [Bool.and_eq_true, decide_eq_true_eq] at h
      obtain ⟨⟨rfl, h2⟩, h3⟩ := h
      exact s_gpop (okE_ok (.ali i g) X W sc none _ R.R h2) (by rfl) h3 (by rfl) (by rfl)
    · cases h
  | .no, X, W, R, st, h => ⟨fun pins s σ H D I q => by
      obtain ⟨F, ρ, ok, q⟩ := q
      rw [run] at q
      exact q.elim⟩
  | .mpar is ces, X, W, R, st, h => by
    unfold okS at h
    split at h
    · rename_i tes k1 p1 vs k2 p2 pos
      simp only [Bool.and_eq_true, decide_eq_true_eq, Bool.or_eq_true] at h
      obtain ⟨⟨h1, h2⟩, h3⟩ := h
      have ha := okEs_m ces vs R h1
      rcases h3 with (h3 | h3) | h3
      · unfold okP2 at h3
        split at h3
        · simp only [Bool.and_eq_true, decide_eq_true_eq, Bool.not_eq_true'] at h3
          obtain ⟨⟨⟨⟨⟨⟨⟨⟨⟨⟨q1, q2⟩, q3⟩, q4⟩, q5⟩, q6⟩, q7⟩, q8⟩, q9⟩, q10⟩, q11⟩ := h3
          exact s_mpar2 R.R.calm (by rw [R.R.nN]; exact R.R.nd) (by rw [R.R.nN]; exact q1) (by rw [R.R.nN]; exact q2) q3 (by rw [R.R.sc]; exact isLoc_of q5) (by rw [R.R.sc]; exact isLoc_of q6) ha
            (sw_some R.bk (by rw [R.R.sc]; exact q5) (by rw [R.R.sc]; exact q6) q4 q7 q8 q9 q10 q11) swaps_tup
        · cases h3
      · unfold okP3 at h3
        split at h3
        · simp only [Bool.and_eq_true, decide_eq_true_eq, Bool.not_eq_true'] at h3
          obtain ⟨⟨⟨⟨⟨⟨⟨⟨⟨⟨⟨⟨⟨⟨⟨⟨⟨⟨q1, q2⟩, q3⟩, q4⟩, q5⟩, q6⟩, q7⟩, q8⟩, q9⟩, q10⟩, q11⟩, q12⟩, q13⟩, q14⟩, q15⟩, q16⟩, q17⟩, q18⟩, q19⟩ := h3
          exact s_mpar3 R.R.calm (by rw [R.R.nN]; exact R.R.nd) (by rw [R.R.nN]; exact q1) (by rw [R.R.nN]; exact q2) (by rw [R.R.nN]; exact q3) q4 q5 q6 (by rw [R.R.sc]; exact isLoc_of q10) (by rw [R.R.sc]; exact isLoc_of q11) (by rw [R.R.sc]; exact isLoc_of q12) ha
            (sw_some3 R.bk (by rw [R.R.sc]; exact q10) (by rw [R.R.sc]; exact q11) (by rw [R.R.sc]; exact q12) q7 q8 q9 q13 q14 q15 q16 q17 q18 q19) swaps_tup
        · cases h3
      · obtain ⟨q1, q2, q3⟩ := okNs_ok R is tes h3.1
        exact s_mparT R.R.K R.R.calm ha q1 h2 q2 q3 swaps_tup (sw_none (by rw [R.R.sc]; exact h3.2)) (by rfl)
    · cases h
theorem okSs_ok : ∀ (c : Ss) (X : Cx) (W : WX) (R : CxS G N Γ φ k X W sc) (sts : List Stmt), okSs G N sc c sts = true → PSs X sts (tSs Γ φ W c)
  | .nil, X, W, R, sts, h => by
    unfold okSs at h
    cases sts with
    | nil => exact ss_nil
    | cons s ss => cases h
  | .cons c r, X, W, R, sts, h => by
    unfold okSs at h
    split at h
    · simp only [Bool.and_eq_true] at h
      exact ss_cons (okS_ok c X W R _ h.1) (okSs_ok r X W R _ h.2)
    · cases h
end
end
end Pv

/-! Pv19: defs. -/
namespace Pv
open PySem PySem.Spec L2
open PyProof.Rows hiding St
section
variable {K : PySem.W.Frag} {F H F' H' : Hp} {σ' : L2.St} {ρ' : Env} {vs : List V} {ws : List Pv.W} {n : Nat}
theorem normW_len : ∀ (ws : List Pv.W) (ρ : Env), (normW ws ρ).length = ws.length
  | [], ρ => by cases ρ <;> rfl
  | .bor _ :: ws, [] => rfl
  | .bor _ :: ws, w :: ρ => by rw [normW, List.length_cons, List.length_cons, normW_len ws ρ]
  | .un :: ws, [] => rfl
  | .un :: ws, w :: ρ => by rw [normW, List.length_cons, List.length_cons, normW_len ws ρ]; simp
  | .dat _ :: ws, [] => rfl
  | .dat _ :: ws, w :: ρ => by rw [normW, List.length_cons, List.length_cons, normW_len ws ρ]; simp
  | .own _ :: ws, [] => rfl
  | .own _ :: ws, w :: ρ => by rw [normW, List.length_cons, List.length_cons, normW_len ws ρ]; simp
  | .lck _ :: ws, [] => rfl
  | .lck _ :: ws, w :: ρ => by rw [normW, List.length_cons, List.length_cons, normW_len ws ρ]; simp
theorem normW_at : ∀ (ws : List Pv.W) (ρ : Env) (i : Nat), i < ρ.length → (normW ws ρ)[i]? = match ws[i]? with
    | some (.bor _) => ρ[i]?
    | some w => some w
    | none => none
  | [], ρ, i, h => by cases ρ <;> simp [normW]
  | w :: ws, [], i, h => by simp at h
  | .bor d :: ws, x :: ρ, 0, h => by simp [normW]
  | .un :: ws, x :: ρ, 0, h => by simp [normW]
  | .dat d :: ws, x :: ρ, 0, h => by simp [normW]
  | .own d :: ws, x :: ρ, 0, h => by simp [normW]
  | .lck d :: ws, x :: ρ, 0, h => by simp [normW]
  | .bor d :: ws, x :: ρ, i + 1, h => by
    have := normW_at ws ρ i (by simpa using h)
    simpa [normW] using this
  | .un :: ws, x :: ρ, i + 1, h => by
    have := normW_at ws ρ i (by simpa using h)
    simpa [normW] using this
  | .dat d :: ws, x :: ρ, i + 1, h => by
    have := normW_at ws ρ i (by simpa using h)
    simpa [normW] using this
  | .own d :: ws, x :: ρ, i + 1, h => by
    have := normW_at ws ρ i (by simpa using h)
    simpa [normW] using this
  | .lck d :: ws, x :: ρ, i + 1, h => by
    have := normW_at ws ρ i (by simpa using h)
    simpa [normW] using this
theorem plainWs_at (p : plainWs ws = true) {i : Nat} {w : Pv.W} (h : ws[i]? = some w) : (∃ d, w = .dat d) ∨ ∃ d, w = .bor d := by
  have := List.all_eq_true.mp p w (List.mem_of_getElem? h)
  cases w with
  | dat d => exact .inl ⟨d, rfl⟩
  | bor d => exact .inr ⟨d, rfl⟩
  | _ => cases this
theorem ext_at {w : Pv.W} {i : Nat} (nw : w ≠ .un) (h : (ws ++ List.replicate n Pv.W.un)[i]? = some w) : ws[i]? = some w := by
  by_cases hi : i < ws.length
  · rwa [List.getElem?_append_left hi] at h
  · rw [List.getElem?_append_right (Nat.le_of_not_lt hi), List.getElem?_replicate] at h
    split at h
    · exact absurd (Option.some.inj h).symm nw
    · cases h
theorem ext_σ {v : Option V} {i : Nat} (hi : i < vs.length) : (vs.map some ++ List.replicate n (none : Option V))[i]? = (vs.map some)[i]? :=
  List.getElem?_append_left (by simpa using hi)
theorem at_lt {α : Type} {l : List α} {i : Nat} {a : α} (h : l[i]? = some a) : i < l.length := (List.getElem?_eq_some_iff.mp h).1
theorem Ok.ext (ok : Ok K F H (vs.map some) ws) : Ok K F H (vs.map some ++ List.replicate n none) (ws ++ List.replicate n .un) := by
  have hl : ws.length = vs.length := by rw [ok.len, List.length_map]
  have lt : ∀ {i : Nat} {w : Pv.W}, ws[i]? = some w → (vs.map some ++ List.replicate n (none : Option V))[i]? = (vs.map some)[i]? := fun {i w} h => ext_σ (v := none) (by rw [← hl]; exact at_lt h)
  have heldx : ∀ i, Heldish (ws ++ List.replicate n Pv.W.un) i → Heldish ws i := fun i ⟨d, h⟩ => ⟨d, by
    rcases h with h | h | h
    · exact .inl (ext_at (by simp) h)
    · exact .inr (.inl (ext_at (by simp) h))
    · exact .inr (.inr (ext_at (by simp) h))⟩
  refine ⟨ok.le, by simp [hl], fun i d h => ?_, fun i d h => ?_, fun i j a hi hj e1 e2 => ?_⟩
  · have h := ext_at (by simp) h
    rw [lt h]
    exact ok.dat i d h
  · have h : ws[i]? = some (.own d) ∨ ws[i]? = some (.bor d) ∨ ws[i]? = some (.lck d) := by
      rcases h with h | h | h
      · exact .inl (ext_at (by simp) h)
      · exact .inr (.inl (ext_at (by simp) h))
      · exact .inr (.inr (ext_at (by simp) h))
    have hi : (vs.map some ++ List.replicate n (none : Option V))[i]? = (vs.map some)[i]? := by rcases h with h | h | h <;> exact lt h
    rw [hi]
    exact ok.obj i d h
  · have h1 := heldx i hi
    have h2 := heldx j hj
    obtain ⟨w1, l1, _⟩ := h1.live
    obtain ⟨w2, l2, _⟩ := h2.live
    rw [lt l1] at e1
    rw [lt l2] at e2
    exact ok.inj i j a h1 h2 e1 e2
theorem fin_go (ok : Ok K F H (vs.map some) ws) (p : plainWs ws = true) (g : Go K F H (vs.map some ++ List.replicate n none) (ws ++ List.replicate n .un) F' H' σ' ρ') :
    Go K F H (vs.map some) ws F' H' (vs.map some) (normW ws ρ') ∧ (∀ i a, Heldish (normW ws ρ') i → (vs.map some)[i]? = some (some (V.ref a)) → i < ws.length ∧ Heldish ρ' i ∧ σ'[i]? = some (some (.ref a))) ∧
      (∀ a, Own (vs.map some ++ List.replicate n none) (ws ++ List.replicate n .un) a → ∃ i, i < ws.length ∧ Heldish ρ' i ∧ σ'[i]? = some (some (.ref a))) := by
  have hl : ws.length = vs.length := by rw [ok.len, List.length_map]
  have lt : ∀ {i : Nat} {w : Pv.W}, ws[i]? = some w → (vs.map some ++ List.replicate n (none : Option V))[i]? = (vs.map some)[i]? := fun {i w} h => ext_σ (v := none) (by rw [← hl]; exact at_lt h)
  have up : ∀ {i : Nat} {w : Pv.W}, ws[i]? = some w → (ws ++ List.replicate n Pv.W.un)[i]? = some w := fun {i w} h => by
    rw [List.getElem?_append_left (at_lt h)]; exact h
  have len' : ws.length ≤ ρ'.length ∨ True := .inr trivial
  -- a lent slot
  have bor : ∀ {i : Nat} {d : D}, ws[i]? = some (.bor d) → ∃ d', ρ'[i]? = some (.bor d') ∧ σ'[i]? = (vs.map some)[i]? ∧ (normW ws ρ')[i]? = some (.bor d') := fun {i d} h => by
    obtain ⟨d', h1, e1⟩ := g.bor i d (up h)
    refine ⟨d', h1, e1.trans (lt h), ?_⟩
    rw [normW_at ws ρ' i (at_lt h1), h]
    exact h1
  have dat : ∀ {i : Nat} {d : D}, ws[i]? = some (.dat d) → (normW ws ρ')[i]? = some (.dat d) := fun {i d} h => by
    obtain ⟨w, hw, _⟩ := g.live i ⟨_, up h, by simp⟩
    rw [normW_at ws ρ' i (at_lt hw), h]
  have inv : ∀ {i : Nat} {w : Pv.W}, (normW ws ρ')[i]? = some w → (∃ d, ws[i]? = some (.dat d) ∧ w = .dat d) ∨ ∃ d d', ws[i]? = some (.bor d) ∧ w = .bor d' ∧ ρ'[i]? = some (.bor d') ∧ σ'[i]? = (vs.map some)[i]? := fun {i w} h => by
    have hi : i < ws.length := by rw [← normW_len ws ρ']; exact at_lt h
    have hw : ws[i]? = some ws[i] := List.getElem?_eq_getElem hi
    rcases plainWs_at p hw with ⟨d, e⟩ | ⟨d, e⟩
    · rw [e] at hw
      rw [dat hw] at h
      cases h
      exact .inl ⟨d, hw, rfl⟩
    · rw [e] at hw
      obtain ⟨d', h1, h2, h3⟩ := bor hw
      rw [h3] at h
      cases h
      exact .inr ⟨d, d', hw, rfl, h1, h2⟩
  have heldn : ∀ i, Heldish (normW ws ρ') i → ∃ d d', ws[i]? = some (.bor d) ∧ ρ'[i]? = some (.bor d') ∧ (normW ws ρ')[i]? = some (.bor d') ∧ σ'[i]? = (vs.map some)[i]? := fun i ⟨x, hx⟩ => by
    have : ∃ w, (normW ws ρ')[i]? = some w ∧ ∀ d, w ≠ .dat d := by
      rcases hx with hx | hx | hx
      · exact ⟨_, hx, by simp⟩
      · exact ⟨_, hx, by simp⟩
      · exact ⟨_, hx, by simp⟩
    obtain ⟨w, hw, nd⟩ := this
    rcases inv hw with ⟨d, _, e⟩ | ⟨d, d', h1, e, h2, h3⟩
    · exact absurd e (nd d)
    · subst e
      exact ⟨d, d', h1, h2, hw, h3⟩
  have ownE : ∀ a, Own (vs.map some ++ List.replicate n none) (ws ++ List.replicate n .un) a → ∃ (i : Nat) (d : D), ws[i]? = some (Pv.W.bor d) ∧ (vs.map some)[i]? = some (some (V.ref a)) := fun a ⟨i, ⟨d, hd⟩, e⟩ => by
    rcases hd with hd | hd
    · have hd := ext_at (by simp) hd
      rcases plainWs_at p hd with ⟨_, z⟩ | ⟨_, z⟩ <;> cases z
    · have hd := ext_at (by simp) hd
      exact ⟨i, d, hd, by rw [← lt hd]; exact e⟩
  have ownN : ∀ a, Own (vs.map some ++ List.replicate n none) (ws ++ List.replicate n .un) a → Own (vs.map some) ws a := fun a h => by
    obtain ⟨i, d, h1, h2⟩ := ownE a h
    exact ⟨i, ⟨d, .inr h1⟩, h2⟩
  refine ⟨⟨⟨g.ok.le, by rw [normW_len]; exact ok.len, fun i d h => ?_, fun i d h => ?_, fun i j a hi hj e1 e2 => ?_⟩, g.grow, fun a h1 h2 => ?_, fun a o h1 h2 => g.frame a o h1 fun z => h2 (ownN a z), g.pers, fun a ⟨i, ⟨d, hd⟩, e⟩ => ?_, fun i d h => ?_, fun i d h => ?_, fun i d h => ?_, fun i ⟨w, hw, nw⟩ => ?_⟩, fun i a hi e => ?_, fun a h => ?_⟩
  · rcases inv h with ⟨d', h1, e⟩ | ⟨d', d'', h1, e, _⟩
    · cases e
      obtain ⟨v, e1, r⟩ := ok.dat i d h1
      exact ⟨v, e1, Rep.mono g.grow _ _ r⟩
    · cases e
  · obtain ⟨d', d'', h1, h2, h3, h4⟩ := heldn i ⟨d, h⟩
    have e : d = d'' := by
      rw [h3] at h
      rcases h with h | h | h <;> first | (cases h; rfl) | cases h
    subst e
    rw [← h4]
    exact g.ok.obj i d (.inr (.inl h2))
  · obtain ⟨_, d1, _, h2, _, h4⟩ := heldn i hi
    obtain ⟨_, d2, _, h6, _, h8⟩ := heldn j hj
    exact g.ok.inj i j a ⟨d1, .inr (.inl h2)⟩ ⟨d2, .inr (.inl h6)⟩ (by rw [h4]; exact e1) (by rw [h8]; exact e2)
  · rcases g.fnew a h1 h2 with z | z
    · exact .inl z
    · exact .inr (ownN a z)
  · obtain ⟨d', d'', h1, _⟩ := heldn i ⟨d, by rcases hd with z | z; exact .inl z; exact .inr (.inl z)⟩
    exact .inl ⟨i, ⟨d', .inr h1⟩, e⟩
  · rcases plainWs_at p h with ⟨_, z⟩ | ⟨_, z⟩ <;> cases z
  · rcases inv h with ⟨d', h1, e⟩ | ⟨d', d'', h1, e, _⟩ <;> cases e
  · obtain ⟨d', h1, h2, h3⟩ := bor h
    exact ⟨d', h3, rfl⟩
  · rcases plainWs_at p hw with ⟨d, e⟩ | ⟨d, e⟩
    · subst e; exact ⟨_, dat hw, by simp⟩
    · subst e
      obtain ⟨d', _, _, h3⟩ := bor hw
      exact ⟨_, h3, by simp⟩
  · obtain ⟨d, d', h1, h2, h3, h4⟩ := heldn i hi
    exact ⟨at_lt h1, ⟨d', .inr (.inl h2)⟩, by rw [h4]; exact e⟩
  · obtain ⟨i, d, h1, h2⟩ := ownE a h
    obtain ⟨d', h3, h4, _⟩ := bor h1
    exact ⟨i, at_lt h1, ⟨d', .inr (.inl h3)⟩, by rw [h4]; exact h2⟩
/-- the value that leaves -/
theorem fin_val {np : Nat} {al β : A} {v : V} {zs : List Pv.W} (ok : Ok K F H (vs.map some) ws) (p : plainWs ws = true) (hn : ws.length = np) (g : Go K F H (vs.map some ++ List.replicate n none) (ws ++ List.replicate n .un) F' H' σ' ρ') (r : RepA K H F' H' σ' ρ' al v) (h : finA ws np al ρ' = .ok β zs) :
    zs = normW ws ρ' ∧ (∀ i, β ≠ .pl i) ∧ RepA K H F' H' (vs.map some) (normW ws ρ') β v := by
  obtain ⟨g', hh, hO⟩ := fin_go ok p g
  cases al with
  | d x => cases h; exact ⟨rfl, by simp, r⟩
  | fr x =>
    cases h
    obtain ⟨a, e, h0, f, nh, c⟩ := r
    refine ⟨rfl, by simp, a, e, h0, f, fun z => ?_, c⟩
    obtain ⟨i, hi, ei⟩ := z
    obtain ⟨_, h2, h3⟩ := hh i a hi ei
    exact nh ⟨i, h2, h3⟩
  | ft ds sd =>
    cases h
    have no : ∀ {b : Addr}, ¬ Hld σ' ρ' b → ¬ Hld (vs.map some) (normW ws ρ') b := fun {b} nh z => by
      obtain ⟨i, hi, ei⟩ := z
      obtain ⟨_, h2, h3⟩ := hh i b hi ei
      exact nh ⟨i, h2, h3⟩
    obtain ⟨a, b, ys, u, e, h0, f0, nh, ca, rs, h0b, fb, nhb, q⟩ := r
    exact ⟨rfl, by simp, a, b, ys, u, e, h0, f0, no nh, ca, rs, h0b, fb, no nhb, q⟩
  | pl i =>
    have h' : (if i < np then CO.stuck else match ρ'[i]? with
      | some (.own x) => .ok (.fr x) (normW ws ρ')
      | some (.dat x) => .ok (.d x) (normW ws ρ')
      | _ => .stuck) = CO.ok β zs := h
    by_cases hi : i < np
    · rw [if_pos hi] at h'; cases h'
    rw [if_neg hi] at h'
    obtain ⟨e, lv⟩ := r
    split at h'
    · rename_i x q
      cases h'
      obtain ⟨a, ea, fa, ca⟩ := g.ok.obj i x (.inl q)
      rw [e] at ea
      cases ea
      have no : ∀ j, j < ws.length → Heldish ρ' j → σ'[j]? = some (some (V.ref a)) → False := fun j hj hh ej => by
        have := g.ok.inj i j a ⟨x, .inl q⟩ hh e ej
        omega
      refine ⟨rfl, by simp, a, rfl, ?_, fa, fun z => ?_, ca⟩
      · rcases g.sub a ⟨i, ⟨x, .inl q⟩, e⟩ with z | z
        · obtain ⟨j, hj, h1, h2⟩ := hO a z
          exact (no j hj h1 h2).elim
        · exact z
      · obtain ⟨j, hj, ej⟩ := z
        obtain ⟨h1, h2, h3⟩ := hh j a hj ej
        exact no j h1 h2 h3
    · rename_i x q
      cases h'
      obtain ⟨u, eu, ru⟩ := g.ok.dat i x q
      rw [e] at eu
      cases eu
      exact ⟨rfl, by simp, ru⟩
    · cases h'
theorem finA_any {np : Nat} {al : A} {f : Nat → CO} (h : finA ws np al ρ' = .any f) : False := by
  cases al with
  | d x => cases h
  | fr x => cases h
  | ft x y => cases h
  | pl i =>
    have h' : (if i < np then CO.stuck else match ρ'[i]? with
      | some (.own x) => .ok (.fr x) (normW ws ρ')
      | some (.dat x) => .ok (.d x) (normW ws ρ')
      | _ => .stuck) = CO.any f := h
    by_cases hi : i < np
    · rw [if_pos hi] at h'; cases h'
    · rw [if_neg hi] at h'
      split at h' <;> cases h'
theorem finA_exc {np : Nat} {al : A} {x : Ex} {zs : List Pv.W} (h : finA ws np al ρ' = .exc x zs) : False := by
  cases al with
  | d x => cases h
  | fr x => cases h
  | ft x y => cases h
  | pl i =>
    have h' : (if i < np then CO.stuck else match ρ'[i]? with
      | some (.own x) => .ok (.fr x) (normW ws ρ')
      | some (.dat x) => .ok (.d x) (normW ws ρ')
      | _ => .stuck) = CO.exc x zs := h
    by_cases hi : i < np
    · rw [if_pos hi] at h'; cases h'
    · rw [if_neg hi] at h'
      split at h' <;> cases h'
end
end Pv

/-! Pv20: every def keeps what its code says. -/
namespace Pv
open PySem PySem.Spec L2
open PyProof.Rows hiding St
structure Row where
  nm : Str
  st : Stmt
  N : List Str
  np : Nat
  ng : Nat
  body : Ss
def Row.ps (r : Row) : List Str := r.N.take r.np
def Row.fn (r : Row) : Fn := ⟨r.np + r.ng, r.N.length, r.body⟩
def Row.gsB (r : Row) : Bool := ((r.N.drop r.np).take r.ng).all fun x => !visB (defScope r.st) x
def Row.ok (G : CGl) (r : Row) : Bool := C8.scC r.N r.ps (defScope r.st) && decide (r.np + r.ng ≤ r.N.length) && r.gsB && okSs G r.N (defScope r.st) r.body (defBody r.st)
def Row.binds (r : Row) : Prop := ∀ (kV doc pm : Value) (an : Option Addr) (cdv ct : Value) (us : List Value), us.length = r.ps.length →
  bindArgs (PySem.W.fnOf r.nm r.nm (defArgs r.st) (defBody r.st) (defScope r.st) .none kV doc pm an cdv ct) ⟨us, []⟩ = pure (r.ps.zip us)
def prg (rows : List Row) : Nat → Option Fn := fun i => (rows[i]?).map Row.fn
abbrev FunR (K : PySem.W.Frag) (r : Row) (a : Addr) (fd : FuncData) : Prop := FunD K r.nm r.nm (defArgs r.st) (defBody r.st) (defScope r.st) [] [] a fd
/-- what the world holds of the text -/
structure Wf (G : CGl) (rows : List Row) (Γ : Gm) (P : Program) (w : World) (mg : Str → Option Value) : Prop where
  cst : ∀ (x : Str) (d : D), G.cst.lookup x = some d → ∃ v u, mg x = some u ∧ RelV v u ∧ Rep Γ.K (fun _ => none) d v
  blt : ∀ x, x ∈ G.blt → mg x = none
  fns : ∀ (x : Str) (f : Nat), G.fns.lookup x = some f → ∃ r, rows[f]? = some r ∧ r.nm = x
  defs : ∀ (f : Nat) (r : Row), rows[f]? = some r → ∃ a fd, FunR Γ.K r a fd ∧ mg r.nm = some (.ref a)
  bnd : ∀ (f : Nat) (r : Row), rows[f]? = some r → r.binds
  ok : ∀ (f : Nat) (r : Row), rows[f]? = some r → r.ok G = true
  ng : ∀ (f : Nat) (r : Row), rows[f]? = some r → r.ng = ngOf G f
  xn : G.xcs.length = Γ.n
  xs : ∀ (c : Nat) (z : Str), G.xcs[c]? = some z → mg z = some (.ref (Γ.cl c)) ∧ XCx P w Γ.K mg (Γ.cl c) z
  xm : ∀ c k, c < Γ.n → k < Γ.n → PySem.W.exmOne Γ.K (.ref (Γ.cl k)) (.ref (Γ.cl c)) = some (clsB c k)
section
variable {G : CGl} {rows : List Row} {Γ : Gm} {P : Program} {w : World} {mg : Str → Option Value} {base : Heap}
theorem spF_len {f : List Pv.W → CO} {vs : List V} {H : Hp} {Q : VK} {E : XK} {n m : Nat} (hf : ∀ ws, f ws ≠ .stuck → ws.length = n + m) (h : spF Γ m f vs H Q E) : vs.length = n := by
  obtain ⟨F, ws, gvs, hm, ok, _, h⟩ := h
  have hl := ok.len
  rw [List.length_map, List.length_append, hm] at hl
  have := hf ws fun z => by
    rw [z] at h
    exact h
  omega
theorem runF_len {φ : Phi} {fn : Fn} {ws : List Pv.W} (h : runF φ fn ws ≠ .stuck) : ws.length = fn.np := by
  unfold runF at h
  by_cases q : ws.length = fn.np ∧ plainWs ws = true
  · exact q.1
  · rw [if_neg q] at h; exact absurd rfl h
theorem fn_ok (Y : Wf G rows Γ P w mg) : ∀ (k f : Nat) (r : Row) (a : Addr) (fd : FuncData), rows[f]? = some r → FunR Γ.K r a fd → FnOk P w Γ.K mg base (L2.CX P w) k a fd r.ps (spF Γ r.ng (callK (prg rows) k f))
  | 0, f, r, a, fd, hr, F => by
    have no : ∀ vs H Q E, ¬ spF Γ r.ng (callK (prg rows) 0 f) vs H Q E := fun vs H Q E ⟨_, ws, _, _, _, _, z⟩ => by
      rw [callK] at z
      exact z
    exact ⟨fun vs H Q E z => (no vs H Q E z).elim, fun A outer s H args us vs Q E _ _ _ _ z => (no vs H Q E z).elim⟩
  | k + 1, f, r, a, fd, hr, F => by
    have okr := Y.ok f r hr
    unfold Row.ok at okr
    simp only [Bool.and_eq_true, decide_eq_true_eq] at okr
    obtain ⟨⟨⟨hsc, hnp⟩, hgs⟩, hbody⟩ := okr
    have S := C8.fnScope_by hsc
    have hps : r.ps.length = r.np := by
      unfold Row.ps
      rw [List.length_take]; omega
    have hcall : ∀ ws, callK (prg rows) (k + 1) f ws = runF (callK (prg rows) k) r.fn ws := fun ws => by
      rw [callK]
      have : prg rows f = some r.fn := by unfold prg; rw [hr]; rfl
      rw [this]
    refine F.ok S (fun vs H Q E h => ?_) (fun cdv A outer s H vs Q E hroom h => ?_)
    · rw [hps]
      exact spF_len (fun ws z => runF_len (by rw [← hcall]; exact z)) h
    · let X := cxOf (L2.CX P w) P w Γ.K mg base r.N r.nm (defScope r.st) a cdv A outer s H E
      have R : CxR G r.N Γ (callK (prg rows) k) k X (fun cls d _ H => E cls d H) (defScope r.st) none := {
        K := rfl
        nN := rfl
        nd := S.nd
        calm := rfl
        sc := rfl
        fn := fun _ _ => rfl
        tk := takes_of rfl rfl rfl rfl
        rm := hroom
        cst := Y.cst
        fns := fun x f' hx => by
          obtain ⟨r', hr', rfl⟩ := Y.fns x f' hx
          obtain ⟨a', fd', F', hm⟩ := Y.defs f' r' hr'
          exact ⟨a', fd', r'.ps, by rw [← Y.ng f' r' hr']; exact fn_ok Y k f' r' a' fd' hr' F', hm, F'.kp, F'.bindsN (Y.bnd f' r' hr')⟩
        blt := Y.blt
        xn := Y.xn
        xs := Y.xs
        xm := Y.xm }
      have RS : CxS G r.N Γ (callK (prg rows) k) k X (fun cls d _ H => E cls d H) (defScope r.st) := ⟨R, passes_of rfl, by
        show Env.blockKind _ = _
        unfold Env.blockKind
        show (if (defScope r.st).kind.isAnnotationScope then _ else (defScope r.st).kind) = _
        rw [S.kind]; rfl, rfl, rfl⟩
      refine ⟨_, pss_unseen (okSs_ok r.body _ _ RS _ hbody), ?_⟩
      obtain ⟨F1, ws, gvs, hm, ok, pw, h⟩ := h
      rw [hcall] at h
      unfold runF at h
      have hl : ws.length = (vs ++ gvs).length := by rw [ok.len, List.length_map]
      by_cases q : ws.length = r.fn.np ∧ plainWs ws = true
      case neg => rw [if_neg q] at h; exact h.elim
      rw [if_pos q] at h
      have hw : ws.length = r.np + r.ng := q.1
      rw [List.length_append] at hl
      have hv : vs.length = r.np := by omega
      have e1 : r.fn.ns - r.fn.np = r.N.length - (vs.length + gvs.length) := by
        show r.N.length - (r.np + r.ng) = _
        omega
      rw [e1] at h
      refine ⟨(vs ++ gvs).map some ++ List.replicate (r.N.length - (vs.length + gvs.length)) none, ?_, fun i x v hi hx e => ?_, ?_⟩
      · show ((vs ++ gvs).map some ++ List.replicate (r.N.length - (vs.length + gvs.length)) (none : Option V)).length = (vs.map some ++ List.replicate (r.N.length - vs.length) (none : Option V)).length
        simp only [List.length_append, List.length_map, List.length_replicate]
        omega
      · by_cases h1 : i < vs.length
        · rw [List.map_append, List.append_assoc, List.getElem?_append_left (by simpa using h1)] at e
          show (vs.map some ++ List.replicate (r.N.length - vs.length) (none : Option V))[i]? = _
          rw [List.getElem?_append_left (by simpa using h1)]
          exact e
        · exfalso
          by_cases h2 : i < vs.length + gvs.length
          · have hi' : r.N[i]? = some x := hi
            have hin : x ∈ (r.N.drop r.np).take r.ng := by
              refine List.mem_of_getElem? (i := i - r.np) ?_
              rw [List.getElem?_take, if_pos (by omega), List.getElem?_drop]
              rw [show r.np + (i - r.np) = i by omega]
              exact hi'
            have := List.all_eq_true.mp hgs x hin
            simp only [Bool.not_eq_true'] at this
            unfold visB at this
            have hx : Vis (defScope r.st) x := hx
            rcases hx with z | z | z <;> (rw [z] at this; cases this)
          · rw [List.getElem?_append_right (by simp; omega), List.getElem?_replicate] at e
            split at e <;> cases e
      refine ⟨F1, ws ++ List.replicate (r.N.length - (vs.length + gvs.length)) Pv.W.un, ok.ext (n := r.N.length - (vs.length + gvs.length)), ?_⟩
      show PostS Γ F1 H ((vs ++ gvs).map some ++ List.replicate (r.N.length - (vs.length + gvs.length)) none) _ _ (runs (callK (prg rows) k) r.body _) _
      have e2 : r.fn.body = r.body := rfl
      rw [e2] at h
      generalize runs (callK (prg rows) k) r.body (ws ++ List.replicate (r.N.length - (vs.length + gvs.length)) .un) = res at h
      induction res with
      | any g ih => exact fun b => ih b (h b)
      | next ρ' =>
        intro σ' F' H' g
        exact h .non F' H' (fin_go ok pw g).1 (by simp) (by show Rep _ _ _ _; rw [Rep])
      | brk ρ' => exact h.elim
      | cont ρ' => exact h.elim
      | stuck => exact h.elim
      | exc x ρ' =>
        intro σ' F' H' C d g rx
        exact h F' H' C d (fin_go ok pw g).1 rx
      | ret al ρ' =>
        intro σ' F' H' v g rv
        have h' : spR Γ F1 H (vs ++ gvs) ws Q E (finA ws r.fn.np al ρ') := h
        cases qf : finA ws r.fn.np al ρ' with
        | stuck => rw [qf] at h'; exact h'.elim
        | exc x zs => exact (finA_exc qf).elim
        | any f => exact (finA_any qf).elim
        | ok β zs =>
          rw [qf] at h'
          obtain ⟨rfl, n1, r1⟩ := fin_val ok pw hw g rv qf
          exact h' v F' H' (fin_go ok pw g).1 n1 r1
end
end Pv

/-! Px5: what the head says of the classes of errors. -/
namespace Pv
open PySem PySem.Spec L2
open PyProof.Rows hiding St
open He (ga ma eqO eqO_ok)
/-- a class's text -/
structure CRow where
  z : Str
  st : Stmt
def clsInit : Stmt → Stmt
  | .ClassDef (body := f :: _) .. => f
  | s => s
abbrev InO : Type := Option (Str × Str × Arguments × FuncBody × Scope × Addr × Addr)
def inObs (K : PySem.W.Frag) (z : Str) : InO := match K.lookup (ma K (ga K z) "__init__") with
  | some ⟨_, _, .func fd, _⟩ => some (fd.name, fd.qualname, fd.params, fd.body, fd.scope, fd.globals, fd.builtins)
  | _ => none
def CRow.val (r : CRow) : InO := some ("__init__", r.z ++ ".__init__", defArgs (clsInit r.st), .stmts (defBody (clsInit r.st)), defScope (clsInit r.st), mainGlobals, builtinsNs)
def oexB (K : PySem.W.Frag) (C : Addr) : Bool := match K.lookup C with
  | some ⟨.type "type", _, .cls cd, sl⟩ => (match cd.mro, sl.toList with
    | .ref c :: bm, [_, _, _, _, some (.builtin n), _] => decide (c = C) && decide (n = "ValueError.__new__") && !cd.hasDel && cd.hasDict && HandSPX.refsVE bm
    | _, _ => false)
  | _ => false
theorem oexB_ok {K : PySem.W.Frag} {C : Addr} (h : oexB K C = true) : ∃ nm q N bs bm sn sub ab col dd k0 k1 k2 k3 k5, K.lookup C = some (excClassObj nm q C N bs bm true sn sub ab col dd k0 k1 k2 k3 k5 "ValueError.__new__") ∧ HandSPX.refsVE bm = true := by
  unfold oexB at h
  split at h
  · rename_i dd cd sl ho
    split at h
    · rename_i c bm k0 k1 k2 k3 n k5 hm hs
      simp only [Bool.and_eq_true, decide_eq_true_eq, Bool.not_eq_true'] at h
      obtain ⟨⟨⟨⟨rfl, rfl⟩, hdel⟩, hd⟩, hv⟩ := h
      obtain ⟨nm, bs, mro, ns, qn, hd', sn, sub, ab, col, del⟩ := cd
      dsimp only at hm hdel hd
      subst hm hdel hd
      obtain ⟨l⟩ := sl
      dsimp only at hs
      subst hs
      exact ⟨nm, qn, ns, bs, bm, sn, sub, ab, col, dd, k0, k1, k2, k3, k5, ho, hv⟩
    · cases h
  · cases h
def fileB (prog : Program) (K : PySem.W.Frag) (cd : Value) : Bool := match cd with
  | .ref a => (match K.lookup a with
    | some ⟨_, _, Data.fields vs, _⟩ => (match vs[2]? with
      | some (Value.str file _) => (prog.main.file : Str) == file
      | _ => false)
    | _ => false)
  | _ => false
def cellB (K : PySem.W.Frag) (C : Addr) (cl : List (Str × Addr)) : Bool := match cl with
  | [(y, cc)] => decide (y = ("__class__" : Str)) && (match K.lookup cc with
    | some ⟨_, _, .cell (some (.ref D)), _⟩ => decide (D = C)
    | _ => false)
  | _ => false
def fnB5 (prog : Program) (K : PySem.W.Frag) (C f : Addr) (q : Str) : Bool := match K.lookup f with
  | some ⟨_, _, .func fd, _⟩ => (match fd.defaults with
    | .none => true
    | _ => false) && PySem.W.codeIn K fd.code q && fileB prog K fd.code && cellB K C fd.closure
  | _ => false
/-- the text of an __init__ -/
inductive InitT (z : Str) (b : Bool) : Arguments → List Stmt → Scope → Prop
  | sub {p0 p1 a1 a2 a3 a4 a5 a6 c1 c2 c3 c4 : Pos} {k : Nat} (hl : (a3.endLine == a5.line) = true) (hb : b = false) : InitT z b (Px.initParams p0 p1) [Px.sSup a1 a2 a3 a4 a5 a6, Px.sNam z k c1 c2 c3 c4] Px.initScope
  | top {p0 p1 a1 a2 a3 a4 a5 a6 b1 b2 b3 b4 c1 c2 c3 c4 : Pos} {k : Nat} (hl : (a3.endLine == a5.line) = true) (hb : b = true) (hz : z = "WireError") : InitT z b (Px.initParams p0 p1) [Px.sSup a1 a2 a3 a4 a5 a6, Px.sPlc b1 b2 b3 b4, Px.sNam z k c1 c2 c3 c4] Px.initScope
theorem initF_of {prog : Program} {K : PySem.W.Frag} {z q : Str} {C : Addr} {params : Arguments} {body : List Stmt} {scope : Scope} {p0 p1 : Pos} (e : inObs K z = (some (("__init__" : Str), q, params, FuncBody.stmts body, scope, mainGlobals, builtinsNs) : InO)) (h : fnB5 prog K C (ma K (ga K z) "__init__") q = true)
    (hp : params = Px.initParams p0 p1) (hs : scope = Px.initScope) (ht : PySem.W.typeIn K (.ref (ma K (ga K z) "__init__")) = some (.type "function")) : Px.InitF prog K (ma K (ga K z) "__init__") C q body := by
  refine ⟨?_, ht⟩
  unfold inObs at e
  unfold fnB5 at h
  cases q1 : K.lookup (ma K (ga K z) "__init__") with
  | none => rw [q1] at e; cases e
  | some o =>
    obtain ⟨oc, od, dt, osl⟩ := o
    rw [q1] at e h
    cases dt with
    | func fd =>
      dsimp only at e h
      obtain ⟨n1, n2, n3, n4, n5, n6, n7, n8, n9, n10, n11, n12, n13, n14, n15⟩ := fd
      simp only [Option.some.injEq, Prod.mk.injEq] at e
      obtain ⟨rfl, rfl, rfl, rfl, rfl, rfl, rfl⟩ := e
      subst hp
      subst hs
      simp only [Bool.and_eq_true] at h
      obtain ⟨⟨⟨h1, h2⟩, h3⟩, h4⟩ := h
      cases n8 with
      | none =>
        unfold fileB at h3
        split at h3
        · rename_i cda
          split at h3
          · rename_i ccl cdd vs ccs hk
            split at h3
            · rename_i file tf hv
              unfold cellB at h4
              split at h4
              · rename_i y cc
                simp only [Bool.and_eq_true, decide_eq_true_eq] at h4
                obtain ⟨rfl, h5⟩ := h4
                split at h5
                · rename_i cl cld D csl hcc
                  obtain rfl : D = C := of_decide_eq_true h5
                  exact ⟨oc, od, .none, n9, n10, n11, n12, cda, n14, cc, osl, p0, p1, rfl, rfl, h2, ⟨ccl, cdd, vs, ccs, file, tf, hk, hv, h3⟩, cl, cld, csl, hcc⟩
                · cases h5
              · cases h4
            · cases h3
          · cases h3
        · cases h3
      | _ => cases h1
    | _ => cases e
abbrev w0 : Str := "WireError"
def clB (prog : Program) (K : PySem.W.Frag) (z : Str) : Bool :=
  oexB K (ga K z) && (eqO (PySem.W.findIn K (.ref (ga K z)) "__setattr__") (some (some (.builtin "object.__setattr__"))) && (decide (PySem.W.subIn K (.ref (ga K z)) (.type "BaseException") = some true) && (decide (PySem.W.typeIn K (.ref (ga K z)) = some (.type "type")) &&
  (PySem.W.keepIn K (.ref (ga K z)) && (eqO (PySem.W.findIn K (.ref (ga K z)) "place") (some none) && (eqO (PySem.W.findIn K (.ref (ga K z)) "name") (some none) && (eqO (PySem.W.findIn K (.ref (ga K z)) "__init__") (some (some (.ref (ma K (ga K z) "__init__")))) &&
  (decide (PySem.W.typeIn K (.ref (ma K (ga K z) "__init__")) = some (.type "function")) && (fnB5 prog K (ga K z) (ma K (ga K z) "__init__") (z ++ ".__init__") && (xfB K (ga K z) && ((PySem.W.clsIn K (ga K z)).isSome &&
  (eqO (PySem.W.findIn K (.ref (ga K z)) "__class__") (some (some (.builtin "object.__class__"))) && (decide (PySem.W.mroIn K (ga K z) (.type "object") = some true) && (decide (PySem.W.kitOne K (.ref (ga K z)) (.type "ValueError") = some true) &&
  (decide (PySem.W.mroIn K (ga K z) (.ref (ga K z)) = some true) && (decide (PySem.W.mroIn K (ga K z) (.ref (ga K w0)) = some true) && (eqO (PySem.W.ks_superIn K (ga K z) (ga K w0) "__init__") (some (some (.builtin "ValueError.__init__"))) &&
  ((decide (z = w0) || eqO (PySem.W.ks_superIn K (ga K z) (ga K z) "__init__") (some (some (.ref (ma K (ga K w0) "__init__"))))) && eqO (PySem.W.nsIn K mainGlobals z) (some (some (.ref (ga K z))))))))))))))))))))))
def gB (K : PySem.W.Frag) : Bool := eqO (PySem.W.nsIn K cStatics "thirdparty.any") (some none) && (eqO (PySem.W.nsIn K mainGlobals "super") (some none) &&
  (decide (PySem.W.specialIn K (.builtin "object.__class__") "__get__" = some (some (.builtin "getset_descriptor.__get__"))) && (decide (PySem.W.takesIn K (.builtin "object.__class__") = some true) && PySem.W.fnIn K (ma K (ga K w0) "__init__"))))
theorem band {a b : Bool} (h : (a && b) = true) : a = true ∧ b = true := Bool.and_eq_true_iff.mp h
theorem xcx_of {prog : Program} {w : World} {K : PySem.W.Frag} {h : Heap} {mg : Str → Option Value} {r : CRow} {stW : Stmt} (XK : K.In h) (N : h.Ns mainGlobals mg) (hg : gB K = true) (hB : clB prog K r.z = true) (hW : clB prog K w0 = true)
    (ho : inObs K r.z = r.val) (hoW : inObs K w0 = (CRow.mk w0 stW).val) (T : InitT r.z (decide (r.z = w0)) (defArgs (clsInit r.st)) (defBody (clsInit r.st)) (defScope (clsInit r.st)))
    (TW : InitT w0 true (defArgs (clsInit stW)) (defBody (clsInit stW)) (defScope (clsInit stW))) (htop : (prog.main.scope.names.lookup ("super" : Str)).isSome = false) : mg r.z = some (.ref (ga K r.z)) ∧ XCx prog w K mg (ga K r.z) r.z := by
  obtain ⟨g1, hg⟩ := band hg
  obtain ⟨g2, hg⟩ := band hg
  obtain ⟨g3, hg⟩ := band hg
  obtain ⟨g4, g5⟩ := band hg
  have hsuper : mg "super" = none := PySem.W.mg_none_of XK N (eqO_ok g2)
  obtain ⟨b1, hB⟩ := band hB
  obtain ⟨b2, hB⟩ := band hB
  obtain ⟨b3, hB⟩ := band hB
  obtain ⟨b4, hB⟩ := band hB
  obtain ⟨b5, hB⟩ := band hB
  obtain ⟨b6, hB⟩ := band hB
  obtain ⟨b7, hB⟩ := band hB
  obtain ⟨b8, hB⟩ := band hB
  obtain ⟨b9, hB⟩ := band hB
  obtain ⟨b10, hB⟩ := band hB
  obtain ⟨b11, hB⟩ := band hB
  obtain ⟨b12, hB⟩ := band hB
  obtain ⟨b13, hB⟩ := band hB
  obtain ⟨b14, hB⟩ := band hB
  obtain ⟨b15, hB⟩ := band hB
  obtain ⟨b16, hB⟩ := band hB
  obtain ⟨b17, hB⟩ := band hB
  obtain ⟨b18, hB⟩ := band hB
  obtain ⟨b19, b20⟩ := band hB
  obtain ⟨w1, hW⟩ := band hW
  obtain ⟨w2, hW⟩ := band hW
  obtain ⟨w3, hW⟩ := band hW
  obtain ⟨w4, hW⟩ := band hW
  obtain ⟨w5, hW⟩ := band hW
  obtain ⟨w6, hW⟩ := band hW
  obtain ⟨w7, hW⟩ := band hW
  obtain ⟨w8, hW⟩ := band hW
  obtain ⟨w9, hW⟩ := band hW
  obtain ⟨w10, hW⟩ := band hW
  obtain ⟨w11, hW⟩ := band hW
  obtain ⟨w12, hW⟩ := band hW
  have EF : Px.ExcF K (ga K r.z) := ⟨⟨oexB_ok b1, eqO_ok b2, of_decide_eq_true b3, of_decide_eq_true b4, b5⟩, eqO_ok g1, eqO_ok b6, eqO_ok b7⟩
  have cC : ∃ cd, PySem.W.clsIn K (ga K r.z) = some cd := Option.isSome_iff_exists.mp b12
  have cW : ∃ cd, PySem.W.clsIn K (ga K w0) = some cd := Option.isSome_iff_exists.mp w12
  have tyf := of_decide_eq_true b9
  refine ⟨PySem.W.mg_of XK N (eqO_ok b20), ⟨EF, _, eqO_ok b8, tyf, ?_⟩, xfB_ok b11, b12, eqO_ok b13, of_decide_eq_true g3, of_decide_eq_true g4, of_decide_eq_true b14, of_decide_eq_true b15⟩
  rw [CRow.val] at ho hoW
  generalize hA : defArgs (clsInit r.st) = pa at ho T
  generalize hBd : defBody (clsInit r.st) = bo at ho T
  generalize hSc : defScope (clsInit r.st) = sc at ho T
  dsimp only at hoW
  generalize defArgs (clsInit stW) = paW at hoW TW
  generalize defBody (clsInit stW) = boW at hoW TW
  generalize defScope (clsInit stW) = scW at hoW TW
  cases TW with
  | sub hl hb => cases hb
  | top hlW _ hzW =>
  have IW := initF_of hoW w10 rfl rfl (of_decide_eq_true w9)
  cases T with
  | sub hl hb =>
    have IF := initF_of ho b10 rfl rfl tyf
    rw [hb, Bool.false_or] at b19
    intro A s x t0 place R X hroom hKx hx hR
    exact Px.init_sub X hl hlW hroom hKx IF IW EF hx cC (of_decide_eq_true b16) cW (of_decide_eq_true b17) (eqO_ok b19) (eqO_ok b18) hsuper htop g5 hR
  | top hl hb hz =>
    have IF := initF_of ho b10 rfl rfl tyf
    have e18 := eqO_ok b18
    have e16 := of_decide_eq_true b16
    intro A s x t0 place R X hroom hKx hx hR
    obtain ⟨z, st⟩ := r
    dsimp only at *
    subst hz
    exact Px.init_base X hl (Nat.lt_of_succ_lt hroom) hKx IF EF hx cC e16 e18 hsuper htop hR
/-! ### the head's facts, with those of the classes -/
def pairB (K : PySem.W.Frag) (zs : List Str) : Bool := (List.range zs.length).all fun c => (List.range zs.length).all fun k => decide (PySem.W.exmOne K (.ref (ga K (zs.getD k ""))) (.ref (ga K (zs.getD c ""))) = some (clsB c k))
def xsB (prog : Program) (K : PySem.W.Frag) (zs : List Str) : Bool := zs.isEmpty || (gB K && (zs.all (clB prog K) && (clB prog K w0 && pairB K zs)))
abbrev AlP : Type := He.AlD × List InO × InO × Bool
def obsP (prog : Program) (fa : List He.Fa) (fn : List He.DefD) (cs : List CRow) (K : PySem.W.Frag) : AlP := (He.obsD fa fn K, cs.map (fun c => inObs K c.z), (if cs.isEmpty then none else inObs K w0), xsB prog K (cs.map (·.z)))
def valP (fn : List He.DefD) (cs : List CRow) (stW : Stmt) : AlP := (He.valD fn, cs.map CRow.val, (if cs.isEmpty then none else (CRow.mk w0 stW).val), true)
def SaysP (prog : Program) (fa : List He.Fa) (fn : List He.DefD) (cs : List CRow) (stW : Stmt) (K : PySem.W.Frag) : Prop := obsP prog fa fn cs K = valP fn cs stW
def obsPG (prog : Program) (n : Nat) (fa : List He.Fa) (fn : List He.DefD) (cs : List CRow) (g : Addr → Option Obj) : AlP := obsP prog fa fn cs (He.frG g (cStatics :: He.asD g n))
def hookP (prog : Program) (n : Nat) (fa : List He.Fa) (fn : List He.DefD) (cs : List CRow) (stW : Stmt) : PySem.W.Hook where
  α := AlP
  obs := fun s => obsPG prog n fa fn cs s.heap.get?
  val := fun _ => valP fn cs stW
  says := fun _ h => ∃ K : PySem.W.Frag, K.In h ∧ SaysP prog fa fn cs stW K
  of := fun _ _ e => ⟨_, He.frG_in, e⟩
  keeps := fun _ _ _ p k => let ⟨K, hK, c⟩ := p; ⟨K, PySem.W.Frag.In.keeps hK k, c⟩
theorem obsPG_eq {prog : Program} {n : Nat} {fa : List He.Fa} {fn : List He.DefD} {cs : List CRow} {stW : Stmt} {g : Addr → Option Obj} {s : Shared} (h : ∀ a, g a = s.heap.get? a) : obsPG prog n fa fn cs g = (hookP prog n fa fn cs stW).obs s := by
  rw [show g = s.heap.get? from funext h]; rfl
theorem xs_of {prog : Program} {w : World} {K : PySem.W.Frag} {h : Heap} {mg : Str → Option Value} {fa : List He.Fa} {fn : List He.DefD} {cs : List CRow} {stW : Stmt} (XK : K.In h) (N : h.Ns mainGlobals mg) (c : SaysP prog fa fn cs stW K)
    (T : ∀ r ∈ cs, InitT r.z (decide (r.z = w0)) (defArgs (clsInit r.st)) (defBody (clsInit r.st)) (defScope (clsInit r.st))) (TW : cs = [] ∨ InitT w0 true (defArgs (clsInit stW)) (defBody (clsInit stW)) (defScope (clsInit stW)))
    (htop : (prog.main.scope.names.lookup ("super" : Str)).isSome = false) :
    (∀ (i : Nat) (z : Str), (cs.map (·.z))[i]? = some z → mg z = some (.ref (ga K ((cs.map (·.z)).getD i ""))) ∧ XCx prog w K mg (ga K ((cs.map (·.z)).getD i "")) z) ∧
    ∀ c k, c < cs.length → k < cs.length → PySem.W.exmOne K (.ref (ga K ((cs.map (·.z)).getD k ""))) (.ref (ga K ((cs.map (·.z)).getD c ""))) = some (clsB c k) := by
  have c1 : cs.map (fun c => inObs K c.z) = cs.map CRow.val := congrArg (fun a : AlP => a.2.1) c
  have c2 : (if cs.isEmpty then none else inObs K w0) = (if cs.isEmpty then none else (CRow.mk w0 stW).val) := congrArg (fun a : AlP => a.2.2.1) c
  have c3 : xsB prog K (cs.map (·.z)) = true := congrArg (fun a : AlP => a.2.2.2) c
  by_cases he : cs = []
  · subst he
    exact ⟨fun i z hz => by simp at hz, fun c k hc => by simp at hc⟩
  have TW := TW.resolve_left he
  have hne : cs.isEmpty = false := by cases cs <;> simp_all
  rw [hne] at c2
  have c2' : inObs K w0 = (CRow.mk w0 stW).val := c2
  unfold xsB at c3
  rw [show (cs.map (·.z)).isEmpty = false by cases cs <;> simp_all, Bool.false_or] at c3
  obtain ⟨g, c3⟩ := band c3
  obtain ⟨b, c3⟩ := band c3
  obtain ⟨bw, pr⟩ := band c3
  refine ⟨fun i z hz => ?_, fun c k hc hk => ?_⟩
  · rw [List.getD_eq_getElem?_getD, hz, Option.getD_some]
    rw [List.getElem?_map] at hz
    cases q : cs[i]? with
    | none => rw [q] at hz; cases hz
    | some r =>
      rw [q] at hz
      cases hz
      have hr := List.mem_of_getElem? q
      have e : inObs K r.z = r.val := by
        have := congrArg (fun l : List InO => l[i]?) c1
        simp only [List.getElem?_map, q, Option.map_some, Option.some.injEq] at this
        exact this
      exact xcx_of XK N g (List.all_eq_true.mp b r.z (List.mem_map_of_mem hr)) bw e c2' (T r hr) TW htop
  · unfold pairB at pr
    have h1 := List.all_eq_true.mp pr c (List.mem_range.mpr (by rw [List.length_map]; exact hc))
    exact of_decide_eq_true (List.all_eq_true.mp h1 k (List.mem_range.mpr (by rw [List.length_map]; exact hk)))
end Pv

/-! Pv21: from the head to the law. -/
namespace Pv
open PySem PySem.Spec L2
open PyProof.Rows hiding St
def dOf (r : Row) : He.DefD := ⟨(r.nm, none), r.nm, r.nm, defArgs r.st, defBody r.st, defScope r.st, [], []⟩
def cFa (p : Str × D) : He.Fa := match p.2 with
  | .int i => .int p.1 i
  | .str s => .str p.1 s
  | _ => .free p.1
def cOk (p : Str × D) : Bool := match p.2 with
  | .int _ => true
  | .str _ => true
  | _ => false
def faOf (G : CGl) (rows : List Row) : List He.Fa := rows.map (fun r => .glo r.nm) ++ (G.blt.map .free ++ G.cst.map cFa)
def glOk (G : CGl) (rows : List Row) : Bool := (G.fns.all fun p => match rows[p.2]? with
  | some r => decide (r.nm = p.1)
  | none => false) && G.cst.all cOk && (rows.zipIdx.all fun p => decide (p.1.ng = ngOf G p.2))
theorem mem_lookup {α : Type} {l : List (Str × α)} {x : Str} {a : α} (h : l.lookup x = some a) : (x, a) ∈ l := by
  induction l with
  | nil => cases h
  | cons p l ih =>
    obtain ⟨y, b⟩ := p
    rw [List.lookup_cons] at h
    split at h
    · rename_i e
      cases h
      rw [beq_iff_eq.mp e]
      exact List.mem_cons_self ..
    · exact List.mem_cons_of_mem _ (ih h)
theorem says_mem {fa : List He.Fa} {fn : List He.DefD} {K : PySem.W.Frag} (c : He.SaysD fa fn K) {f : He.Fa} (h : f ∈ fa) : f.ok K = true := by
  obtain ⟨i, hi, e⟩ := List.getElem_of_mem h
  exact c.fact i (f := f) (by rw [List.getElem?_eq_getElem hi, e])
section
variable {G : CGl} {rows : List Row} {K : PySem.W.Frag} {h : Heap} {mg : Str → Option Value} {cl : Nat → Addr} {nm : Nat}
theorem wf_of {P : Program} {w : World} {cs : List CRow} {stW : Stmt} (X : K.In h) (N : h.Ns mainGlobals mg) (c0 : SaysP P (faOf G rows) (rows.map dOf) cs stW K) (hcs : cs.map (·.z) = G.xcs)
    (T : ∀ r ∈ cs, InitT r.z (decide (r.z = w0)) (defArgs (clsInit r.st)) (defBody (clsInit r.st)) (defScope (clsInit r.st))) (TW : cs = [] ∨ InitT w0 true (defArgs (clsInit stW)) (defBody (clsInit stW)) (defScope (clsInit stW)))
    (htop : (P.main.scope.names.lookup ("super" : Str)).isSome = false) (hg : glOk G rows = true) (hok : (rows.all fun r => r.ok G) = true) (hb : ∀ r ∈ rows, r.binds) :
    Wf G rows ⟨K, fun c => He.ga K (G.xcs.getD c ""), G.xcs.length⟩ P w mg := by
  have c : He.SaysD (faOf G rows) (rows.map dOf) K := congrArg (fun a : AlP => a.1) c0
  have xx := xs_of (w := w) X N c0 T TW htop
  rw [hcs] at xx
  unfold glOk at hg
  rw [Bool.and_eq_true, Bool.and_eq_true, List.all_eq_true, List.all_eq_true, List.all_eq_true] at hg
  obtain ⟨⟨h1, h2⟩, h3⟩ := hg
  refine ⟨fun x d hx => ?_, fun x hx => He.free_ok X N (says_mem c ?_), fun x f hx => ?_, fun f r hr => ?_, fun f r hr => hb r (List.mem_of_getElem? hr), fun f r hr => List.all_eq_true.mp hok r (List.mem_of_getElem? hr), fun f r hr => of_decide_eq_true (h3 (r, f) (List.mem_iff_getElem?.mpr ⟨f, by rw [List.getElem?_zipIdx, hr]; simp⟩)), rfl, xx.1, fun c k hc hk => xx.2 c k (by rw [← List.length_map (f := (·.z)), hcs]; exact hc) (by rw [← List.length_map (f := (·.z)), hcs]; exact hk)⟩
  · have hm := mem_lookup hx
    have hf : cFa (x, d) ∈ faOf G rows := List.mem_append_right _ (List.mem_append_right _ (List.mem_map_of_mem hm))
    have hc := h2 _ hm
    have hk := says_mem c hf
    cases d with
    | int i =>
      obtain ⟨t, e⟩ := He.int_ok X N (x := x) (i := i) hk
      exact ⟨.int i, _, e, ⟨t, rfl⟩, by rw [Rep]⟩
    | str s =>
      obtain ⟨t, e⟩ := He.str_ok X N (x := x) (z := s) hk
      exact ⟨.str s, _, e, ⟨t, rfl⟩, by rw [Rep]⟩
    | _ => cases hc
  · exact List.mem_append_right _ (List.mem_append_left _ (List.mem_map_of_mem hx))
  · have := h1 _ (mem_lookup hx)
    dsimp only at this
    split at this
    · rename_i r e
      exact ⟨r, e, of_decide_eq_true this⟩
    · cases this
  · obtain ⟨fd, F⟩ := c.def_ f (d := dOf r) (by rw [List.getElem?_map, hr]; rfl)
    refine ⟨_, fd, F, He.glo_ok X N (says_mem c (List.mem_append_left _ ?_))⟩
    exact List.mem_map.mpr ⟨r, List.mem_of_getElem? hr, rfl⟩
theorem cx_no {P : Program} {w : World} (H : Hp) (s : Shared) (e : Value) (s' : Shared) (h : L2.CX P w [] H s (fun _ _ _ => False) e s') : False := by
  obtain ⟨_, _, _, _, _, _, _, _, _, _, _, _, z⟩ := h
  exact z.elim
theorem reps_ints {K : PySem.W.Frag} {F : Hp} : ∀ ns : List Int, Reps K F (ns.map D.int) (ns.map V.int)
  | [] => .nil
  | n :: ns => .cons (by rw [Rep]) (reps_ints ns)
/-- True, whatever addresses come -/
def CO.Yes : CO → Prop
  | .ok α _ => α = .d (.bl true)
  | .any f => ∀ b, CO.Yes (f b)
  | _ => False
theorem CO.Yes.of {c : CO} {ws : List Pv.W} (h : c = .ok (.d (.bl true)) ws) : c.Yes := by subst h; exact rfl
/-- the law's promise at its start -/
theorem law_sp {K : PySem.W.Frag} {φ : List Pv.W → CO} {H : Hp} {a : Addr} {ns : List Int} (hs : SqL K H a (ns.map V.int)) (hl : (φ [.dat (.scr (ns.map D.int))]).Yes) :
    spF ⟨K, cl, nm⟩ 0 φ [.ref a] H (fun v _ => v = .bl true) fun _ _ _ => False := by
  refine ⟨H, [.dat (.scr (ns.map D.int))], [], rfl, ⟨Same.refl _, rfl, fun i d hi => ?_, fun i d hi => ?_, fun i j b hi => ?_⟩, rfl, ?_⟩
  · cases i with
    | zero =>
      have e : Pv.W.dat (.scr (ns.map D.int)) = .dat d := Option.some.inj hi
      cases e
      exact ⟨_, rfl, by rw [Rep]; exact ⟨a, _, rfl, hs, reps_ints ns⟩⟩
    | succ i => cases hi
  · cases i with
    | zero => rcases hi with z | z | z <;> cases z
    | succ i => rcases hi with z | z | z <;> cases z
  · obtain ⟨d, hd⟩ := hi
    cases i with
    | zero => rcases hd with z | z | z <;> cases z
    | succ i => rcases hd with z | z | z <;> cases z
  · generalize φ [.dat (.scr (ns.map D.int))] = c at hl
    induction c with
    | any f ih => exact fun b => ih b (hl b)
    | ok α ws =>
      intro v F' H' g np r
      have e : α = .d (.bl true) := hl
      subst e
      have r' : Rep K F' (.bl true) v := r
      rw [Rep] at r'
      exact r'
    | exc x ws => exact hl.elim
    | stuck => exact hl.elim
end
/-- the law by its evaluation -/
theorem walk_pv {l : PySem.W.OpenLaw} {q : Program} {loose : List Str} {XP : (Str → Option Value) → Heap → Prop} {d : DefRec} {G : CGl} {rows : List Row} {f k m : Nat} {r : Row} {x : Str} (hn : l.most = some 63) (hdf : d.params.defaults = []) (hr : Room k callerA)
    (hrow : rows[f]? = some r) (hps : r.ps = [x]) (hd : d.name = r.nm) {cs : List CRow} {stW : Stmt} (hcs : cs.map (·.z) = G.xcs)
    (T : ∀ r ∈ cs, InitT r.z (decide (r.z = w0)) (defArgs (clsInit r.st)) (defBody (clsInit r.st)) (defScope (clsInit r.st))) (TW : cs = [] ∨ InitT w0 true (defArgs (clsInit stW)) (defBody (clsInit stW)) (defScope (clsInit stW)))
    (htop : (l.prog.main.scope.names.lookup ("super" : Str)).isSome = false) (hg : glOk G rows = true) (hok : (rows.all fun r => r.ok G) = true) (hb : ∀ r ∈ rows, r.binds)
    (hg0 : r.ng = 0) (hl : ∀ ns : List Int, ns.length ≤ 63 → (callK (prg rows) k f [.dat (.scr (ns.map D.int))]).Yes) :
    PySem.W.WalkO q loose XP (hookP l.prog m (faOf G rows) (rows.map dOf) cs stW).says l.row.toRowW d [] (fun f vs => PySem.call f vs) := by
  refine Att.attach_call hn hdf ?_
  intro w t0 t1 g gb at_ ob pmv cdv dcv sa us is GG YY h1 h2 h3 h4 h5 h6 h7 h8
  obtain ⟨K, KX, c⟩ := YY
  have Y := wf_of (w := w) KX GG.T.g c hcs T TW htop hg hok hb
  obtain ⟨a', fd, F, hm⟩ := Y.defs f r hrow
  have e : at_ = a' := by
    have := h4
    rw [hd] at this
    rw [this] at hm
    cases hm
    rfl
  subst e
  have F1 := fun base : Heap => fn_ok (P := l.prog) (w := w) (base := base) Y k f r at_ fd hrow F
  rw [hps, hg0] at F1
  have hbind : ∀ (s : Shared) (u : Value), BindsTo s fd ⟨[u], []⟩ [(x, u)] := fun s u => by
    have := F.bindsA (hb r (List.mem_of_getElem? hrow)) s [u] (by rw [hps]; rfl)
    rw [hps] at this
    exact this
  refine L2.law_call KX GG.T.g GG.T.b GG.T.builtins GG.T.nolimit h8 h5 h6 (Nat.le_trans h7 (by rw [sizeLine_eq]; decide)) hr (fun base _ _ => F1 base) hbind (fun H _ hS => ?_) fun H e s' => cx_no H t1 e s'
  exact law_sp hS (hl is h7)
end Pv

/-! Pp1: plain rules about evaluation. -/
namespace Pv
theorem seq_next (ρ : Env) (f : Env → FR) : FR.seq (.next ρ) f = f ρ := rfl
theorem seq_ret (a : A) (ρ : Env) (f : Env → FR) : FR.seq (.ret a ρ) f = .ret a ρ := rfl
theorem seq_brk (ρ : Env) (f : Env → FR) : FR.seq (.brk ρ) f = .brk ρ := rfl
theorem seq_cont (ρ : Env) (f : Env → FR) : FR.seq (.cont ρ) f = .cont ρ := rfl
theorem seq_exc (x : Ex) (ρ : Env) (f : Env → FR) : FR.seq (.exc x ρ) f = .exc x ρ := rfl
theorem seq_ite (c : Prop) [Decidable c] (a b : FR) (f : Env → FR) : FR.seq (if c then a else b) f = if c then FR.seq a f else FR.seq b f := by split <;> rfl
theorem of_some {α : Type} (a : α) (ρ : Env) : R.of (some a) ρ = .ok a ρ := rfl
theorem of_none {α : Type} (ρ : Env) : (R.of none ρ : R α) = .stuck := rfl
theorem get_d (x : D) (ρ : Env) : A.get (.d x) ρ = some x := rfl
theorem get_fr (x : D) (ρ : Env) : A.get (.fr x) ρ = some x := rfl
theorem get_pl (i : Nat) (ρ : Env) : A.get (.pl i) ρ = (ρ[i]?).bind W.cont := rfl
theorem cont_dat (d : D) : W.cont (.dat d) = some d := rfl
theorem cont_own (d : D) : W.cont (.own d) = some d := rfl
theorem cont_bor (d : D) : W.cont (.bor d) = some d := rfl
theorem cont_lck (d : D) : W.cont (.lck d) = some d := rfl
theorem frz_d (x : D) (ρ : Env) : A.frz (.d x) ρ = .ok x ρ := rfl
theorem frz_fr (x : D) (ρ : Env) : A.frz (.fr x) ρ = .ok x ρ := rfl
theorem asg_d (ρ : Env) (i : Nat) (x : D) : asgA ρ i (.d x) = (R.of (setW ρ i (.dat x)) ρ).bind fun ρ _ => .ok () ρ := rfl
theorem asg_fr (ρ : Env) (i : Nat) (x : D) : asgA ρ i (.fr x) = (R.of (setW ρ i (.own x)) ρ).bind fun ρ _ => .ok () ρ := rfl
theorem argF (a : A) (ρ : Env) : argG false a ρ = (a.frz ρ).bind fun d ρ => .ok (.d d) ρ := rfl
theorem argT (i : Nat) (ρ : Env) : argG true (.pl i) ρ = .ok (.pl i) ρ := rfl
theorem gets_nil (ρ : Env) : getsA [] ρ = some [] := rfl
theorem gets_cons (a : A) (r : List A) (ρ : Env) : getsA (a :: r) ρ = (a.get ρ).bind fun d => (getsA r ρ).map (d :: ·) := rfl
theorem ags_nil (ρ : Env) : agsW ρ [] = some [] := rfl
theorem ags_cons (ρ : Env) (g : Ag) (r : List Ag) : agsW ρ (g :: r) = (agW ρ g).bind fun w => (agsW ρ r).map (w :: ·) := rfl
theorem ag_d (ρ : Env) (x : D) : agW ρ (.d x) = some (.dat x) := rfl
theorem lents_d (x : D) (r : List Ag) : lents (.d x :: r) = lents r := rfl
theorem lents_pl (x : Nat) (r : List Ag) : lents (.pl x :: r) = x :: lents r := rfl
theorem lents_nil : lents [] = [] := rfl
theorem backs_nil (ρ : Env) : backs ρ [] [] = some ρ := rfl
theorem backs_d (ρ : Env) (x : D) (r : List Ag) (w : W) (ws : List W) : backs ρ (.d x :: r) (w :: ws) = backs ρ r ws := rfl
theorem backs_pl (ρ : Env) (x : Nat) (r : List Ag) (w : W) (ws : List W) : backs ρ (.pl x :: r) (w :: ws) = (backW ρ x w).bind fun ρ => backs ρ r ws := rfl
theorem lock_d (x : D) (ρ : Env) : lockW ρ (.d x) = some (ρ, id) := rfl
theorem lock_fr (x : D) (ρ : Env) : lockW ρ (.fr x) = some (ρ, id) := rfl
section
variable (φ : Phi) (ρ : Env)
theorem ev_var (i : Nat) : ev φ (.var i) ρ = match ρ[i]? with
    | some (.dat d) => .ok (.d d) ρ
    | some (.own _) => .ok (.pl i) ρ
    | some (.bor _) => .ok (.pl i) ρ
    | some (.lck _) => .ok (.pl i) ρ
    | _ => .stuck := by first | rfl | (rw [ev]; rfl)
theorem ev_cst (d : D) : ev φ (.cst d) ρ = .ok (.d d) ρ := by first | rfl | rw [ev] | (rw [ev]; rfl)
theorem ev_tup (es : Es) : ev φ (.tup es) ρ = (evs φ es ρ).bind fun ds ρ => if ds.length ≤ Line then .ok (.d (.tup ds)) ρ else .stuck := by first | rfl | rw [ev] | (rw [ev]; rfl)
theorem ev_lst (es : Es) : ev φ (.lst es) ρ = (evs φ es ρ).bind fun ds ρ => if ds.length ≤ Line then .ok (.fr (.lst ds)) ρ else .stuck := by first | rfl | rw [ev] | (rw [ev]; rfl)
theorem ev_bin (op : PySem.Operator) (a b : E) : ev φ (.bin op a b) ρ = (ev φ a ρ).bind fun x ρ => (ev φ b ρ).bind fun y ρ => R.of ((x.get ρ).bind fun dx => (y.get ρ).bind fun dy => binD op dx dy) ρ := by first | rfl | rw [ev] | (rw [ev]; rfl)
theorem ev_neg (a : E) : ev φ (.neg a) ρ = (ev φ a ρ).bind fun x ρ => match x.get ρ with
    | some (.int i) => .ok (.d (.int (-i))) ρ
    | _ => .stuck := by first | rfl | rw [ev] | (rw [ev]; rfl)
theorem ev_cmp (op : PySem.CmpOp) (a b : E) : ev φ (.cmp op a b) ρ = (ev φ a ρ).bind fun x ρ => (ev φ b ρ).bind fun y ρ => R.of (((x.get ρ).bind fun dx => (y.get ρ).bind fun dy => cmpD op dx dy).map fun k => .d (.bl k)) ρ := by first | rfl | rw [ev] | (rw [ev]; rfl)
theorem ev_cmp2 (op1 op2 : PySem.CmpOp) (a b c : E) : ev φ (.cmp2 op1 op2 a b c) ρ = (ev φ a ρ).bind fun x ρ => (ev φ b ρ).bind fun y ρ => match (x.get ρ).bind fun dx => (y.get ρ).bind fun dy => cmpD op1 dx dy with
    | some true => (ev φ c ρ).bind fun z ρ => R.of (((y.get ρ).bind fun dy => (z.get ρ).bind fun dz => cmpD op2 dy dz).map fun k => .d (.bl k)) ρ
    | some false => .ok (.d (.bl false)) ρ
    | none => .stuck := by first | rfl | rw [ev] | (rw [ev]; rfl)
theorem ev_and (a b : E) : ev φ (.and a b) ρ = (ev φ a ρ).bind fun x ρ => match x with
    | .d (.bl true) => ev φ b ρ
    | .d (.bl false) => .ok (.d (.bl false)) ρ
    | _ => .stuck := by first | rfl | rw [ev] | (rw [ev]; rfl)
theorem ev_or (a b : E) : ev φ (.or a b) ρ = (ev φ a ρ).bind fun x ρ => match x with
    | .d (.bl false) => ev φ b ρ
    | .d (.bl true) => .ok (.d (.bl true)) ρ
    | _ => .stuck := by first | rfl | rw [ev] | (rw [ev]; rfl)
theorem ev_not (a : E) : ev φ (.not a) ρ = (ev φ a ρ).bind fun x ρ => match x with
    | .d (.bl k) => .ok (.d (.bl (!k))) ρ
    | _ => .stuck := by first | rfl | rw [ev] | (rw [ev]; rfl)
theorem ev_ife (c : T) (a b : E) : ev φ (.ife c a b) ρ = (evT φ c ρ).bind fun k ρ => if k then ev φ a ρ else ev φ b ρ := by first | rfl | rw [ev] | (rw [ev]; rfl)
theorem ev_ix (a i : E) : ev φ (.ix a i) ρ = (ev φ a ρ).bind fun x ρ => (ev φ i ρ).bind fun y ρ => R.of (((x.get ρ).bind fun dx => (y.get ρ).bind fun dy => ixD dx dy).map .d) ρ := by first | rfl | rw [ev] | (rw [ev]; rfl)
theorem ev_sl (a : E) (lo hi : Eo) : ev φ (.sl a lo hi) ρ = (ev φ a ρ).bind fun x ρ => (evO φ lo ρ).bind fun l ρ => (evO φ hi ρ).bind fun h ρ => R.of ((x.get ρ).bind fun dx => slD dx l h) ρ := by first | rfl | rw [ev] | (rw [ev]; rfl)
theorem ev_call (f : Nat) (es : Es) : ev φ (.call f es) ρ = (evL φ es ρ).bind fun gs ρ => callG φ f gs ρ := by first | rfl | rw [ev] | (rw [ev]; rfl)
theorem ev_bi (b : Nat) (es : Es) : ev φ (.bi b es) ρ = (evG φ es ρ).bind fun xs ρ => R.of ((getsA xs ρ).bind (biD b)) ρ := by first | rfl | rw [ev] | (rw [ev]; rfl)
theorem ev_isi (a : E) (t : Nat) : ev φ (.isi a t) ρ = (ev φ a ρ).bind fun x ρ => R.of ((x.get ρ).bind fun d => (isiO d t).map fun k => .d (.bl k)) ρ := by first | rfl | rw [ev] | (rw [ev]; rfl)
theorem ev_mt1 (m : Nat) (o e : E) : ev φ (.mt1 m o e) ρ = (ev φ o ρ).bind fun x ρ => match x with
    | .d (.str s) => (ev φ e ρ).bind fun y ρ => R.of ((y.get ρ).bind fun dy => mt1D m (.str s) dy) ρ
    | _ => .stuck := by first | rfl | rw [ev] | (rw [ev]; rfl)
theorem ev_ali (c g : Nat) : ev φ (.ali c g) ρ = match glL ρ c g with
    | some _ => .ok (.pl g) ρ
    | none => .stuck := by first | rfl | rw [ev] | (rw [ev]; rfl)
theorem ev_mkT (a b : E) : ev φ (.mkT a b) ρ = (ev φ a ρ).bind fun x ρ => match x with
    | .fr (.lst ds) => (ev φ b ρ).bind fun y ρ => (y.frz ρ).bind fun s ρ => .ok (.ft ds s) ρ
    | _ => .stuck := by first | rfl | rw [ev] | (rw [ev]; rfl)
theorem ev_callT (f : Nat) (es : Es) (g : Nat) : ev φ (.callT f es g) ρ = (evL φ es ρ).bind fun gs ρ => callG φ f (gs ++ [.pl g]) ρ := by first | rfl | rw [ev] | (rw [ev]; rfl)
theorem run_tape (i g : Nat) (e : E) : run φ (.asgT i g e) ρ = FR.of (ev φ e ρ) fun a ρ => match a with
    | .ft ds s => .any fun b => FR.of (R.of ((setW ρ i (.own (.lst [.adr b, s]))).bind fun ρ => setG ρ g b ds) ρ) fun ρ _ => .next ρ
    | _ => .stuck := by first | rfl | rw [run] | (rw [run]; rfl)
theorem run_gset (c g : Nat) (k e : E) : run φ (.gset c g k e) ρ = FR.of (ev φ e ρ) fun y ρ => FR.of (y.frz ρ) fun d ρ => match glL ρ c g with
    | none => .stuck
    | some _ => FR.of (ev φ k ρ) fun z ρ => match z, glL ρ c g with
      | .d (.int n), some ds => match L2.ixN ds.length n with
        | some j => .next (putG ρ g (ds.set j d))
        | none => .stuck
      | _, _ => .stuck := by first | rfl | rw [run] | (rw [run]; rfl)
theorem run_mpar (is : List Nat) (es : Es) : run φ (.mpar is es) ρ = FR.of (evM φ es ρ) fun as ρ => FR.of (R.of (asgs is as ρ) ρ) fun ρ _ => .next ρ := by first | rfl | rw [run] | (rw [run]; rfl)
theorem evM_nil : evM φ .nil ρ = .ok [] ρ := by first | rfl | rw [evM] | (rw [evM]; rfl)
theorem evM_cons (m : Bool) (e : E) (r : Es) : evM φ (.cons m e r) ρ = (ev φ e ρ).bind fun x ρ => (thaw x ρ).bind fun x ρ => (evM φ r ρ).bind fun xs ρ => .ok (x :: xs) ρ := by first | rfl | rw [evM] | (rw [evM]; rfl)
theorem thaw_d (x : D) : thaw (.d x) ρ = .ok (.d x) ρ := rfl
theorem thaw_fr (x : D) : thaw (.fr x) ρ = .ok (.fr x) ρ := rfl
theorem thaw_pl (i : Nat) : thaw (.pl i) ρ = (A.frz (.pl i) ρ).bind fun d ρ => .ok (.d d) ρ := rfl
theorem run_gpop (c g : Nat) : run φ (.gpop c g) ρ = match glL ρ c g with
    | some (_ :: ds) => .next (putG ρ g ds)
    | _ => .stuck := by first | rfl | rw [run] | (rw [run]; rfl)
/-- the turns of a comprehension, its names, what is walked -/
def lcRun (elt : Env → R A) (tg : Tg) (c : Env → R Bool) (vs : List Nat) (l : Option (Env × (Env → Env))) (xs : List D) : R A := match l with
  | some (ρ1, un) => if plainVs ρ1 vs then match lcGo elt tg c vs xs (wipeW ρ1 vs) [] with
      | .ok ds ρ2 => .ok (.fr (.lst ds)) (un (backV ρ1 ρ2 vs))
      | _ => .stuck
    else .stuck
  | none => .stuck
theorem lcRun_ok {elt : Env → R A} {tg : Tg} {c : Env → R Bool} {vs : List Nat} {ρ1 ρ2 : Env} {un : Env → Env} {xs ds : List D} (h : plainVs ρ1 vs = true) (e : lcGo elt tg c vs xs (wipeW ρ1 vs) [] = .ok ds ρ2) : lcRun elt tg c vs (some (ρ1, un)) xs = .ok (.fr (.lst ds)) (un (backV ρ1 ρ2 vs)) := by
  unfold lcRun
  simp only [h, if_true, e]
theorem ev_lc (elt : E) (tg : Tg) (it : It) (c : T) (vs : List Nat) : ev φ (.lc elt tg it c vs) ρ = (evI φ it ρ).bind fun p ρ => lcRun (ev φ elt) tg (evT φ c) vs (lockW ρ p.1) p.2 := by first | rfl | (rw [ev]; rfl)
theorem run_asg (i : Nat) (e : E) : run φ (.asg (.name i) e) ρ = FR.of (ev φ e ρ) fun a ρ => FR.of (asgA ρ i a) fun _ ρ => .next ρ := by first | rfl | rw [run] | (rw [run]; rfl)
theorem run_asgT (ts : Tgs) (e : E) : run φ (.asg (.tup ts) e) ρ = FR.of (ev φ e ρ) fun a ρ => match a with
    | .d x => FR.of (R.of (tgD (.tup ts) x ρ) ρ) fun ρ _ => .next ρ
    | _ => .stuck := by first | rfl | rw [run] | (rw [run]; rfl)
theorem run_par (i j : Nat) (a b : E) : run φ (.par i j a b) ρ = FR.of (ev φ a ρ) fun x ρ => FR.of (x.frz ρ) fun x ρ => FR.of (ev φ b ρ) fun y ρ => FR.of (y.frz ρ) fun y ρ =>
      FR.of (R.of ((setW ρ i (.dat x)).bind fun ρ => setW ρ j (.dat y)) ρ) fun ρ _ => .next ρ := by first | rfl | rw [run] | (rw [run]; rfl)
theorem run_aug (i : Nat) (op : PySem.Operator) (e : E) : run φ (.aug i op e) ρ = match ρ[i]? with
    | some (.dat x) => FR.of (ev φ e ρ) fun y ρ => FR.of (R.of (((y.get ρ).bind fun dy => augD op x dy).bind fun z => setW ρ i (.dat z)) ρ) fun ρ _ => .next ρ
    | _ => .stuck := by first | rfl | (rw [run]; rfl)
theorem run_app (i : Nat) (e : E) : run φ (.app i e) ρ = match ownL ρ i with
    | none => .stuck
    | some _ => FR.of (ev φ e ρ) fun y ρ => FR.of (y.frz ρ) fun d ρ => match ownL ρ i with
      | some ds => if ds.length < Line then .next (putL ρ i (ds ++ [d])) else .stuck
      | none => .stuck := by first | rfl | rw [run] | (rw [run]; rfl)
theorem run_seti (i : Nat) (k e : E) : run φ (.seti i k e) ρ = FR.of (ev φ e ρ) fun y ρ => FR.of (y.frz ρ) fun d ρ => match ownL ρ i with
    | none => .stuck
    | some _ => FR.of (ev φ k ρ) fun z ρ => match z, ownL ρ i with
      | .d (.int n), some ds => match L2.ixN ds.length n with
        | some j => .next (putL ρ i (ds.set j d))
        | none => .stuck
      | _, _ => .stuck := by first | rfl | rw [run] | (rw [run]; rfl)
theorem run_expr (e : E) : run φ (.expr e) ρ = FR.of (ev φ e ρ) fun _ ρ => .next ρ := by first | rfl | rw [run] | (rw [run]; rfl)
theorem run_iff (c : T) (a b : Ss) : run φ (.iff c a b) ρ = FR.of (evT φ c ρ) fun k ρ => if k then runs φ a ρ else runs φ b ρ := by first | rfl | rw [run] | (rw [run]; rfl)
theorem run_whl (c : T) (b : Ss) : run φ (.whl c b) ρ = whGo (evT φ c) (runs φ b) WF ρ := by first | rfl | (rw [run]; rfl)
/-- the turns of a for -/
def frRun (t : Tg) (b : Env → FR) (l : Option (Env × (Env → Env))) (xs : List D) : FR := match l with
  | none => .stuck
  | some (ρ1, un) => (forGo t b xs ρ1).un un
theorem frRun_next {t : Tg} {b : Env → FR} {ρ1 ρ2 : Env} {un : Env → Env} {xs : List D} (e : forGo t b xs ρ1 = .next ρ2) : frRun t b (some (ρ1, un)) xs = .next (un ρ2) := by
  show (forGo t b xs ρ1).un un = _
  rw [e]; rfl
theorem run_fr (t : Tg) (it : It) (b : Ss) : run φ (.fr t it b) ρ = FR.of (evI φ it ρ) fun p ρ => frRun t (runs φ b) (lockW ρ p.1) p.2 := by first | rfl | (rw [run]; rfl)
theorem run_ret (e : E) : run φ (.ret e) ρ = FR.of (ev φ e ρ) fun a ρ => .ret a ρ := by first | rfl | rw [run] | (rw [run]; rfl)
theorem run_retN : run φ .retN ρ = .ret (.d .non) ρ := by first | rfl | rw [run] | (rw [run]; rfl)
theorem run_pass : run φ .pass ρ = .next ρ := by first | rfl | rw [run] | (rw [run]; rfl)
theorem run_brk : run φ .brk ρ = .brk ρ := by first | rfl | rw [run] | (rw [run]; rfl)
theorem run_cont : run φ .cont ρ = .cont ρ := by first | rfl | rw [run] | (rw [run]; rfl)
theorem runs_nil : runs φ .nil ρ = .next ρ := by first | rfl | rw [runs] | (rw [runs]; rfl)
theorem runs_cons (s : S) (r : Ss) : runs φ (.cons s r) ρ = (run φ s ρ).seq fun ρ => runs φ r ρ := by first | rfl | rw [runs] | (rw [runs]; rfl)
theorem evs_nil : evs φ .nil ρ = .ok [] ρ := by first | rfl | rw [evs] | (rw [evs]; rfl)
theorem evs_cons (m : Bool) (e : E) (r : Es) : evs φ (.cons m e r) ρ = (ev φ e ρ).bind fun x ρ => (x.frz ρ).bind fun d ρ => (evs φ r ρ).bind fun ds ρ => .ok (d :: ds) ρ := by first | rfl | rw [evs] | (rw [evs]; rfl)
theorem evL_nil : evL φ .nil ρ = .ok [] ρ := by first | rfl | rw [evL] | (rw [evL]; rfl)
theorem evL_cons (m : Bool) (e : E) (r : Es) : evL φ (.cons m e r) ρ = (ev φ e ρ).bind fun x ρ => (argG m x ρ).bind fun g ρ => (evL φ r ρ).bind fun gs ρ => .ok (g :: gs) ρ := by first | rfl | rw [evL] | (rw [evL]; rfl)
theorem evG_nil : evG φ .nil ρ = .ok [] ρ := by first | rfl | rw [evG] | (rw [evG]; rfl)
theorem evG_cons (m : Bool) (e : E) (r : Es) : evG φ (.cons m e r) ρ = (ev φ e ρ).bind fun x ρ => (evG φ r ρ).bind fun xs ρ => .ok (x :: xs) ρ := by first | rfl | rw [evG] | (rw [evG]; rfl)
theorem evT_yes : evT φ .yes ρ = .ok true ρ := by first | rfl | rw [evT]
theorem evT_not (a : T) : evT φ (.not a) ρ = (evT φ a ρ).bind fun k ρ => .ok (!k) ρ := by first | rfl | rw [evT]
theorem evT_and (a b : T) : evT φ (.and a b) ρ = (evT φ a ρ).bind fun k ρ => if k then evT φ b ρ else .ok false ρ := by first | rfl | rw [evT]
theorem evT_or (a b : T) : evT φ (.or a b) ρ = (evT φ a ρ).bind fun k ρ => if k then .ok true ρ else evT φ b ρ := by first | rfl | rw [evT]
theorem evT_ife (c a b : T) : evT φ (.ife c a b) ρ = (evT φ c ρ).bind fun k ρ => if k then evT φ a ρ else evT φ b ρ := by first | rfl | rw [evT]
theorem evT_val (e : E) : evT φ (.val e) ρ = (ev φ e ρ).bind fun x ρ => R.of ((x.get ρ).bind truD) ρ := by first | rfl | rw [evT]
theorem evO_no : evO φ .no ρ = .ok none ρ := by first | rfl | rw [evO]
theorem evO_so (e : E) : evO φ (.so e) ρ = (ev φ e ρ).bind fun x ρ => match x with
    | .d (.int i) => .ok (some i) ρ
    | _ => .stuck := by first | rfl | rw [evO] | (rw [evO]; rfl)
theorem evI_ex (e : E) : evI φ (.ex e) ρ = (ev φ e ρ).bind fun x ρ => R.of (((x.get ρ).bind itemsOf).map fun ds => (x, ds)) ρ := by first | rfl | rw [evI]
theorem evI_rng1 (a : E) : evI φ (.rng1 a) ρ = (ev φ a ρ).bind fun x ρ => match x with
    | .d (.int j) => if rngOk 0 j then .ok (.d .non, rngD 0 j) ρ else .stuck
    | _ => .stuck := by first | rfl | rw [evI] | (rw [evI]; rfl)
theorem evI_rng2 (a b : E) : evI φ (.rng2 a b) ρ = (ev φ a ρ).bind fun x ρ => (ev φ b ρ).bind fun y ρ => match x, y with
    | .d (.int i), .d (.int j) => if rngOk i j then .ok (.d .non, rngD i j) ρ else .stuck
    | _, _ => .stuck := by first | rfl | rw [evI] | (rw [evI]; rfl)
end
theorem isiO_non (t : Nat) : isiO .non t = some (isiD .non t) := rfl
theorem isiO_bl (b : Bool) (t : Nat) : isiO (.bl b) t = some (isiD (.bl b) t) := rfl
theorem isiO_int (b : Int) (t : Nat) : isiO (.int b) t = some (isiD (.int b) t) := rfl
theorem isiO_str (b : PySem.Str) (t : Nat) : isiO (.str b) t = some (isiD (.str b) t) := rfl
theorem isiO_tup (b : List D) (t : Nat) : isiO (.tup b) t = some (isiD (.tup b) t) := rfl
theorem isiO_lst (b : List D) (t : Nat) : isiO (.lst b) t = some (isiD (.lst b) t) := rfl
theorem isiO_scr (b : List D) (t : Nat) : isiO (.scr b) t = some (isiD (.scr b) t) := rfl
theorem fin_next (ws : List W) (n : Nat) (ρ : Env) : finF ws n (.next ρ) = .ok (.d .non) (normW ws ρ) := rfl
theorem fin_ret (ws : List W) (n : Nat) (a : A) (ρ : Env) : finF ws n (.ret a ρ) = finA ws n a ρ := rfl
theorem fin_exc (ws : List W) (n : Nat) (x : Ex) (ρ : Env) : finF ws n (.exc x ρ) = .exc x (normW ws ρ) := rfl
theorem fin_any (ws : List W) (n : Nat) (f : Nat → FR) : finF ws n (.any f) = .any fun b => finF ws n (f b) := rfl
theorem seq_any (g : Nat → FR) (f : Env → FR) : FR.seq (.any g) f = .any fun b => (g b).seq f := rfl
theorem len_gl (b : Nat) (xs : List D) : lenD [.gl b xs] = some (.d (.int xs.length)) := rfl
theorem x_gl (b : Nat) (xs : List D) (k : Int) : ixD (.gl b xs) (.int k) = L2.atI xs k := rfl
theorem evI_zip (φ : Phi) (ρ : Env) (a b : E) : evI φ (.zip a b) ρ = (ev φ a ρ).bind fun x ρ => (x.frz ρ).bind fun x ρ => (ev φ b ρ).bind fun y ρ => (y.frz ρ).bind fun y ρ => R.of ((zipD x y).map fun l => (.d .non, l)) ρ := by first | rfl | rw [evI] | (rw [evI]; rfl)
theorem evI_enm (φ : Phi) (ρ : Env) (a : E) : evI φ (.enm a) ρ = (ev φ a ρ).bind fun x ρ => (x.frz ρ).bind fun x ρ => R.of ((enumD x).map fun l => (.d .non, l)) ρ := by first | rfl | rw [evI] | (rw [evI]; rfl)
theorem evI_rng3 (φ : Phi) (ρ : Env) (a b c : E) : evI φ (.rng3 a b c) ρ = (ev φ a ρ).bind fun x ρ => (ev φ b ρ).bind fun y ρ => (ev φ c ρ).bind fun z ρ => match x, y, z with
    | .d (.int i), .d (.int j), .d (.int c) => if rng3Ok i j c then .ok (.d .non, rng3D i j c) ρ else .stuck
    | _, _, _ => .stuck := by first | rfl | rw [evI] | (rw [evI]; rfl)
theorem zip_tup (xs ys : List D) : zipD (.tup xs) (.tup ys) = some (List.zipWith (fun a b => .tup [a, b]) xs ys) := rfl
theorem zip_lst (xs ys : List D) : zipD (.lst xs) (.lst ys) = some (List.zipWith (fun a b => .tup [a, b]) xs ys) := rfl
theorem tru_bl (b : Bool) : truD (.bl b) = some b := rfl
theorem tru_int (b : Int) : truD (.int b) = some (b != 0) := rfl
theorem callK_run {P : Nat → Option Fn} {k f : Nat} {fn : Fn} {ws : List W} (h : P f = some fn) : callK P (k + 1) f ws = runF (callK P k) fn ws := by
  rw [callK, h]
theorem lock_pl (ρ : Env) (i : Nat) : lockW ρ (.pl i) = match ρ[i]? with
    | some (.own d) => some (ρ.set i (.lck d), fun ρ => ρ.set i (.own d))
    | some (.bor d) => some (ρ.set i (.lck d), fun ρ => ρ.set i (.bor d))
    | some (.lck _) => some (ρ, id)
    | some (.dat _) => some (ρ, id)
    | _ => none := by first | rfl | (unfold lockW; rfl)
theorem callG_1 {φ : Phi} {f : Nat} {x : D} {a : A} {w : W} (h : φ f [.dat x] = .ok a [w]) (ρ : Env) : callG φ f [.d x] ρ = .ok a ρ := by
  unfold callG
  rw [if_pos (by simp [lents])]
  simp only [ags_cons, ag_d, ags_nil, Option.bind_some, Option.map_some, h, backs_d, backs_nil, of_some, R.bind_ok]
theorem callG_2 {φ : Phi} {f : Nat} {x y : D} {a : A} {w z : W} (h : φ f [.dat x, .dat y] = .ok a [w, z]) (ρ : Env) : callG φ f [.d x, .d y] ρ = .ok a ρ := by
  unfold callG
  rw [if_pos (by simp [lents])]
  simp only [ags_cons, ag_d, ags_nil, Option.bind_some, Option.map_some, h, backs_d, backs_nil, of_some, R.bind_ok]
theorem callG_t {φ : Phi} {f i : Nat} {x d d' : D} {a : A} {z : W} {ρ : Env} (h : φ f [.bor d, .dat x] = .ok a [.bor d', z]) (hi : ρ[i]? = some (.own d)) : callG φ f [.pl i, .d x] ρ = .ok a (ρ.set i (.own d')) := by
  unfold callG
  rw [if_pos (by simp [lents])]
  simp only [ags_cons, ag_d, ags_nil, agW, hi, Option.bind_some, Option.map_some, h, backs_pl, backW, backs_d, backs_nil, of_some, R.bind_ok]
theorem blsOf_map (f : D → Bool) : ∀ xs : List D, blsOf (xs.map fun x => .bl (f x)) = some (xs.map f)
  | [] => rfl
  | x :: xs => by
    show (blsOf (xs.map fun x => .bl (f x))).map (f x :: ·) = _
    rw [blsOf_map f xs]; rfl
theorem strsOf_map {α : Type} (f : α → PySem.Str) : ∀ xs : List α, strsOf (xs.map fun x => .str (f x)) = some (xs.map f)
  | [] => rfl
  | x :: xs => by
    show (strsOf (xs.map fun x => .str (f x))).map (f x :: ·) = _
    rw [strsOf_map f xs]; rfl
section
variable (i j : Int) (s t : PySem.Str) (xs ys : List D)
theorem b_add : binD .Add (.int i) (.int j) = some (.d (.int (i + j))) := rfl
theorem b_sub : binD .Sub (.int i) (.int j) = some (.d (.int (i - j))) := rfl
theorem b_mulr (h : -(2 ^ 64) < j ∧ j < 2 ^ 64) : binD .Mult (.int i) (.int j) = some (.d (.int (i * j))) := if_pos (.inr h)
theorem b_mull (h : -(2 ^ 64) < i ∧ i < 2 ^ 64) : binD .Mult (.int i) (.int j) = some (.d (.int (i * j))) := if_pos (.inl h)
theorem b_fdiv (h : 0 < j ∧ j < 1073741824) : binD .FloorDiv (.int i) (.int j) = some (.d (.int (i / j))) := if_pos h
theorem b_mod (h : 0 < j) : binD .Mod (.int i) (.int j) = some (.d (.int (i % j))) := if_pos h
theorem b_pow (h : 0 ≤ j ∧ j ≤ 1000000 ∧ -(2 ^ 64) < i ∧ i < 2 ^ 64) : binD .Pow (.int i) (.int j) = some (.d (.int (i ^ j.toNat))) := if_pos ⟨h.1, h.2.1, by have := h.2.2; omega⟩
theorem b_shl (h : 0 ≤ j ∧ j ≤ 1000000 ∧ -(2 ^ 64) < i ∧ i < 2 ^ 64) : binD .LShift (.int i) (.int j) = some (.d (.int (i * 2 ^ j.toNat))) := if_pos ⟨h.1, h.2.1, by have := h.2.2; omega⟩
theorem b_shr (h : 0 ≤ j) : binD .RShift (.int i) (.int j) = some (.d (.int (i / 2 ^ j.toNat))) := if_pos h
theorem b_band : binD .BitAnd (.int i) (.int j) = some (.d (.int (PySem.Builtin.bitAnd i j))) := rfl
theorem b_bor : binD .BitOr (.int i) (.int j) = some (.d (.int (PySem.Builtin.bitOr i j))) := rfl
theorem b_bxor : binD .BitXor (.int i) (.int j) = some (.d (.int (PySem.Builtin.bitXor i j))) := rfl
theorem b_adds (h : s.length + t.length ≤ Line) : binD .Add (.str s) (.str t) = some (.d (.str (s ++ t))) := if_pos h
theorem b_addt (h : xs.length + ys.length ≤ Line) : binD .Add (.tup xs) (.tup ys) = some (.d (.tup (xs ++ ys))) := if_pos h
theorem b_addl (h : xs.length + ys.length ≤ Line) : binD .Add (.lst xs) (.lst ys) = some (.fr (.lst (xs ++ ys))) := if_pos h
theorem b_repl (h : -(2 ^ 63) ≤ j ∧ j < 2 ^ 63 ∧ xs.length * j.toNat ≤ Line) : binD .Mult (.lst xs) (.int j) = some (.fr (.lst (List.replicate j.toNat xs).flatten)) := if_pos h
theorem b_reps (h : -(2 ^ 63) ≤ j ∧ j < 2 ^ 63 ∧ s.length * j.toNat ≤ Line) : binD .Mult (.str s) (.int j) = some (.d (.str (strRep s j.toNat))) := if_pos h
theorem c_eqi : cmpD .Eq (.int i) (.int j) = some (decide (i = j)) := eqD_int i j
theorem c_eqs : cmpD .Eq (.str s) (.str t) = some (decide (s = t)) := eqD_str s t
theorem c_eqb (a b : Bool) : cmpD .Eq (.bl a) (.bl b) = some (decide (a = b)) := eqD_bl a b
theorem c_eql : cmpD .Eq (.lst xs) (.lst ys) = eqDeep (.lst xs) (.lst ys) := rfl
theorem c_eqt : cmpD .Eq (.tup xs) (.tup ys) = eqDeep (.tup xs) (.tup ys) := rfl
theorem c_nei : cmpD .NotEq (.int i) (.int j) = some (!decide (i = j)) := by unfold cmpD; rw [eqD_int]; rfl
theorem c_nes : cmpD .NotEq (.str s) (.str t) = some (!decide (s = t)) := by unfold cmpD; rw [eqD_str]; rfl
theorem c_lt : cmpD .Lt (.int i) (.int j) = some (decide (i < j)) := rfl
theorem c_le : cmpD .LtE (.int i) (.int j) = some (decide (i ≤ j)) := rfl
theorem c_gt : cmpD .Gt (.int i) (.int j) = some (decide (j < i)) := rfl
theorem c_ge : cmpD .GtE (.int i) (.int j) = some (decide (j ≤ i)) := rfl
theorem c_is (d : D) : cmpD .Is d .non = some (isN d) := rfl
theorem c_isn (d : D) : cmpD .IsNot d .non = some (!isN d) := rfl
theorem c_isb (d : D) (b : Bool) : cmpD .Is d (.bl b) = some (isB d b) := rfl
theorem c_isnb (d : D) (b : Bool) : cmpD .IsNot d (.bl b) = some (!isB d b) := rfl
theorem c_in (d e : D) : cmpD .In d e = inD d e := rfl
theorem c_nin (d e : D) : cmpD .NotIn d e = (inD d e).map (!·) := rfl
theorem x_lst : ixD (.lst xs) (.int i) = L2.atI xs i := rfl
theorem x_tup : ixD (.tup xs) (.int i) = L2.atI xs i := rfl
theorem x_scr : ixD (.scr xs) (.int i) = L2.atI xs i := rfl
end
theorem len_lst (xs : List D) : lenD [.lst xs] = some (.d (.int xs.length)) := rfl
theorem len_tup (xs : List D) : lenD [.tup xs] = some (.d (.int xs.length)) := rfl
theorem len_scr (xs : List D) : lenD [.scr xs] = some (.d (.int xs.length)) := rfl
theorem it_lst (xs : List D) : itemsOf (.lst xs) = some xs := rfl
theorem it_tup (xs : List D) : itemsOf (.tup xs) = some xs := rfl
theorem it_scr (xs : List D) : itemsOf (.scr xs) = some xs := rfl
theorem line_nil : (0 ≤ Line) = True := eq_true (Nat.zero_le _)
theorem line_n {n : Nat} (h : n ≤ 1000) : n ≤ Line := Nat.le_trans h (by decide)
theorem rng_mem {lo hi : Int} {x : D} (h : x ∈ rngD lo hi) : ∃ j : Int, x = .int j ∧ lo ≤ j ∧ j < hi := by
  obtain ⟨k, hk, rfl⟩ := List.mem_map.mp h
  have := List.mem_range.mp hk
  exact ⟨lo + k, rfl, by omega, by omega⟩
theorem rng_length {lo hi : Int} : (rngD lo hi).length = (hi - lo).toNat := by simp [rngD]
theorem rngOk_of {lo hi : Int} (h1 : -1000000 ≤ lo) (h2 : hi ≤ 1000000) (h3 : lo ≤ 1000000) (h4 : -1000000 ≤ hi) : rngOk lo hi = true := by
  unfold rngOk
  simp only [Bool.and_eq_true, decide_eq_true_eq]
  omega
theorem at_nat {α : Type} {xs : List α} {j : Int} (h0 : 0 ≤ j) (h1 : j < xs.length) : L2.atI xs j = xs[j.toNat]? := by
  unfold L2.atI L2.ixN
  rw [if_pos h0, if_pos h1]; rfl
theorem at_ints {xs : List Int} {j : Int} (h0 : 0 ≤ j) (h1 : j < xs.length) : ∃ v, L2.atI (xs.map D.int) j = some (.int v) := by
  rw [at_nat h0 (by simpa using h1), List.getElem?_map, List.getElem?_eq_getElem (by omega)]
  exact ⟨_, rfl⟩
theorem at4_0 {a b c d : D} : L2.atI [a, b, c, d] 0 = some a := rfl
theorem at4_1 {a b c d : D} : L2.atI [a, b, c, d] 1 = some b := rfl
theorem at4_2 {a b c d : D} : L2.atI [a, b, c, d] 2 = some c := rfl
theorem at4_3 {a b c d : D} : L2.atI [a, b, c, d] 3 = some d := rfl
theorem ix4_0 : L2.ixN 4 0 = some 0 := rfl
theorem ix4_1 : L2.ixN 4 1 = some 1 := rfl
theorem ix4_2 : L2.ixN 4 2 = some 2 := rfl
theorem ix4_3 : L2.ixN 4 3 = some 3 := rfl
theorem mul_r {i j : Int} (h : -(2 ^ 64) < j ∧ j < 2 ^ 64) : (if (-(2 ^ 64) < i ∧ i < 2 ^ 64) ∨ (-(2 ^ 64) < j ∧ j < 2 ^ 64) then some (A.d (.int (i * j))) else none) = some (A.d (.int (i * j))) := if_pos (.inr h)
theorem mul_l {i j : Int} (h : -(2 ^ 64) < i ∧ i < 2 ^ 64) : (if (-(2 ^ 64) < i ∧ i < 2 ^ 64) ∨ (-(2 ^ 64) < j ∧ j < 2 ^ 64) then some (A.d (.int (i * j))) else none) = some (A.d (.int (i * j))) := if_pos (.inl h)
section
variable {elt : Env → R A} {tg : Tg} {c : Env → R Bool} {vs : List Nat}
theorem lcGo_map {i : Nat} {ρ : Env} {f : D → D} {p : D → Bool} : ∀ {xs acc : List D}, (∀ x ∈ xs, c (ρ.set i (.dat x)) = .ok (p x) (ρ.set i (.dat x))) → (∀ x ∈ xs, p x = true → elt (ρ.set i (.dat x)) = .ok (.d (f x)) (ρ.set i (.dat x))) → (∀ x, wipeW (ρ.set i (.dat x)) vs = ρ) →
    (∀ x, setW ρ i (.dat x) = some (ρ.set i (.dat x))) → acc.length + xs.length ≤ Line → lcGo elt (.name i) c vs xs ρ acc = .ok (acc ++ (xs.filter p).map f) ρ
  | [], acc, _, _, _, _, _ => by unfold lcGo; simp
  | x :: xs, acc, hc, he, hw, hs, hl => by
    unfold lcGo
    rw [tgD, hs]
    dsimp only
    rw [hc x (List.mem_cons_self ..)]
    have hl' : acc.length + (xs.length + 1) ≤ Line := by simpa using hl
    cases q : p x with
    | false =>
      simp only [R.bind_ok, Bool.false_eq_true, if_false]
      rw [hw, List.filter_cons_of_neg (by rw [q]; simp)]
      exact lcGo_map (fun y hy => hc y (List.mem_cons_of_mem _ hy)) (fun y hy => he y (List.mem_cons_of_mem _ hy)) hw hs (by omega)
    | true =>
      simp only [R.bind_ok, if_true]
      rw [he x (List.mem_cons_self ..) q]
      simp only [R.bind_ok, A.frz]
      rw [if_pos (by omega : acc.length < Line), hw, List.filter_cons_of_pos q, List.map_cons]
      rw [lcGo_map (fun y hy => hc y (List.mem_cons_of_mem _ hy)) (fun y hy => he y (List.mem_cons_of_mem _ hy)) hw hs (by rw [List.length_append, List.length_singleton]; omega)]
      simp
theorem lcGo_all {φ : Phi} {i : Nat} {ρ : Env} (f : D → D) {xs : List D} (he : ∀ x ∈ xs, elt (ρ.set i (.dat x)) = .ok (.d (f x)) (ρ.set i (.dat x))) (hw : ∀ x, wipeW (ρ.set i (.dat x)) vs = ρ)
    (hs : ∀ x, setW ρ i (.dat x) = some (ρ.set i (.dat x))) (hl : xs.length ≤ Line) : lcGo elt (.name i) (evT φ .yes) vs xs ρ [] = .ok (xs.map f) ρ := by
  rw [lcGo_map (f := f) (p := fun _ => true) (fun x _ => by rw [evT]) (fun x hx _ => he x hx) hw hs (by simpa using hl), List.nil_append, List.filter_eq_self.mpr fun _ _ => rfl]
theorem lcGo_some {i : Nat} {ρ : Env} (p : D → Bool) (f : D → D) {xs : List D} (hc : ∀ x ∈ xs, c (ρ.set i (.dat x)) = .ok (p x) (ρ.set i (.dat x))) (he : ∀ x ∈ xs, p x = true → elt (ρ.set i (.dat x)) = .ok (.d (f x)) (ρ.set i (.dat x))) (hw : ∀ x, wipeW (ρ.set i (.dat x)) vs = ρ)
    (hs : ∀ x, setW ρ i (.dat x) = some (ρ.set i (.dat x))) (hl : xs.length ≤ Line) : lcGo elt (.name i) c vs xs ρ [] = .ok ((xs.filter p).map f) ρ := by
  rw [lcGo_map (f := f) (p := p) hc he hw hs (by simpa using hl), List.nil_append]
/-- the environment changes from turn to turn -/
theorem lcGo_st (I : List D → Env → Prop) : ∀ {xs acc : List D} {ρ : Env}, (∀ x ∈ xs, ∀ (acc : List D) (ρ : Env), I acc ρ → ∃ ρ1 ρ2 y ρ3 d ρ4, tgD tg x ρ = some ρ1 ∧ c ρ1 = .ok true ρ2 ∧ elt ρ2 = .ok y ρ3 ∧ A.frz y ρ3 = .ok d ρ4 ∧ I (acc ++ [d]) (wipeW ρ4 vs)) →
    I acc ρ → acc.length + xs.length ≤ Line → ∃ ds ρ', lcGo elt tg c vs xs ρ acc = .ok (acc ++ ds) ρ' ∧ I (acc ++ ds) ρ' ∧ ds.length = xs.length
  | [], acc, ρ, _, i, _ => ⟨[], ρ, by unfold lcGo; simp, by simpa using i, rfl⟩
  | x :: xs, acc, ρ, h, i, hl => by
    have hl' : acc.length + (xs.length + 1) ≤ Line := by simpa using hl
    obtain ⟨ρ1, ρ2, y, ρ3, d, ρ4, e1, e2, e3, e4, i'⟩ := h x (List.mem_cons_self ..) acc ρ i
    obtain ⟨ds, ρ', e, i2, hd⟩ := lcGo_st I (xs := xs) (fun z hz => h z (List.mem_cons_of_mem _ hz)) i' (by rw [List.length_append, List.length_singleton]; omega)
    refine ⟨d :: ds, ρ', ?_, by simpa using i2, by simp [hd]⟩
    unfold lcGo
    rw [e1]
    dsimp only
    rw [e2]
    simp only [R.bind_ok, if_true]
    rw [e3]
    simp only [R.bind_ok]
    rw [e4]
    simp only [R.bind_ok]
    rw [if_pos (by omega : acc.length < Line), e]
    simp
theorem forGo_st {t : Tg} {b : Env → FR} (I : Nat → Env → Prop) {xs : List D} : ∀ {n i : Nat} {ρ : Env}, n = xs.length - i → i ≤ xs.length → (∀ (j : Nat) (x : D) (ρ : Env), xs[j]? = some x → I j ρ → ∃ ρ1 ρ2, tgD t x ρ = some ρ1 ∧ b ρ1 = .next ρ2 ∧ I (j + 1) ρ2) →
    I i ρ → ∃ ρ', forGo t b (xs.drop i) ρ = .next ρ' ∧ I xs.length ρ'
  | 0, i, ρ, hn, hi, h, inv => by
    have e : i = xs.length := by omega
    subst e
    exact ⟨ρ, by rw [List.drop_length]; rfl, inv⟩
  | n + 1, i, ρ, hn, hi, h, inv => by
    have hi' : i < xs.length := by omega
    obtain ⟨ρ1, ρ2, e1, e2, i2⟩ := h i xs[i] ρ (List.getElem?_eq_getElem hi') inv
    obtain ⟨ρ', e, i3⟩ := forGo_st I (n := n) (i := i + 1) (by omega) (by omega) h i2
    refine ⟨ρ', ?_, i3⟩
    rw [List.drop_eq_getElem_cons hi']
    unfold forGo
    rw [e1]
    dsimp only
    rw [e2]
    exact e
end
end Pv

namespace Pv
open PySem
/-- numbers, texts, truth values, None; lists and tuples of such, n deep -/
def Leaf (d : D) : Prop := d = .non ∨ (∃ b, d = .bl b) ∨ (∃ i, d = .int i) ∨ ∃ s, d = .str s
def Plain : Nat → D → Prop
  | 0, d => Leaf d
  | n + 1, d => Leaf d ∨ ∃ ds, (d = .tup ds ∨ d = .lst ds) ∧ ds.length ≤ 1000000 ∧ ∀ x ∈ ds, Plain n x
theorem eqd_nil : eqDeep (.lst []) (.lst []) = some true := by decide +kernel
theorem len_line {α : Type} {xs : List α} (h : xs.length ≤ 1000000) : xs.length ≤ Line := Nat.le_trans h (by decide)
theorem rng_line {n : Int} (h : n ≤ 1000000) : (rngD 0 n).length ≤ Line := by
  rw [rng_length]
  exact Nat.le_trans (by omega : (n - 0).toNat ≤ 1000000) (by decide)
theorem plain_leaf {n : Nat} {d : D} (h : Leaf d) : Plain n d := by
  cases n with
  | zero => exact h
  | succ n => exact .inl h
theorem plain_lst {n : Nat} {ds : List D} (hl : ds.length ≤ 1000000) (h : ∀ x ∈ ds, Plain n x) : Plain (n + 1) (.lst ds) := .inr ⟨ds, .inr rfl, hl, h⟩
theorem plain_tup {n : Nat} {ds : List D} (hl : ds.length ≤ 1000000) (h : ∀ x ∈ ds, Plain n x) : Plain (n + 1) (.tup ds) := .inr ⟨ds, .inl rfl, hl, h⟩
theorem plain_bl {n : Nat} (b : Bool) : Plain n (.bl b) := plain_leaf (.inr (.inl ⟨b, rfl⟩))
theorem plain_int {n : Nat} (b : Int) : Plain n (.int b) := plain_leaf (.inr (.inr (.inl ⟨b, rfl⟩)))
theorem plain_str {n : Nat} (b : Str) : Plain n (.str b) := plain_leaf (.inr (.inr (.inr ⟨b, rfl⟩)))
theorem plain_non {n : Nat} : Plain n .non := plain_leaf (.inl rfl)
theorem plain_up {n : Nat} : ∀ {d : D}, Plain n d → Plain (n + 1) d := by
  induction n with
  | zero => exact fun h => .inl h
  | succ n ih =>
    intro d h
    rcases h with h | ⟨ds, e, hl, hs⟩
    · exact .inl h
    · exact .inr ⟨ds, e, hl, fun x hx => ih (hs x hx)⟩
theorem fa_nil {p : D → Prop} : ∀ x ∈ ([] : List D), p x := fun x h => by cases h
theorem fa_cons {p : D → Prop} {d : D} {ds : List D} (h : p d) (t : ∀ x ∈ ds, p x) : ∀ x ∈ d :: ds, p x := fun x hx => by
  rcases List.mem_cons.mp hx with rfl | hx
  · exact h
  · exact t x hx
theorem plain_map {α : Type} {n : Nat} {f : α → D} {xs : List α} (h : ∀ x ∈ xs, Plain n (f x)) : ∀ d ∈ xs.map f, Plain n d := fun d hd => by
  obtain ⟨x, hx, rfl⟩ := List.mem_map.mp hd
  exact h x hx
theorem plain_ints {n : Nat} {is : List Int} (hl : is.length ≤ 1000000) : Plain (n + 1) (.tup (is.map D.int)) := plain_tup (by rw [List.length_map]; exact hl) (plain_map fun i _ => plain_int i)
theorem plain_intsL {n : Nat} {is : List Int} (hl : is.length ≤ 1000000) : Plain (n + 1) (.lst (is.map D.int)) := plain_lst (by rw [List.length_map]; exact hl) (plain_map fun i _ => plain_int i)
/-- the code of the laws' own 'same' (one of its kinds), f its number -/
def sameCode (f : Nat) : Ss := (.cons (.iff (.val (.cmp .Is (.var 1) (.cst .non))) (.cons (.ret (.cmp .Is (.var 0) (.cst .non))) .nil) .nil) (.cons (.iff (.val (.isi (.var 1) 1)) (.cons (.ret (.and (.isi (.var 0) 1) (.cmp .Eq (.var 0) (.var 1)))) .nil) .nil) (.cons (.iff (.val (.isi (.var 1) 0)) (.cons (.ret (.and (.isi (.var 0) 0) (.and (.not (.isi (.var 0) 1)) (.cmp .Eq (.var 0) (.var 1))))) .nil) .nil) (.cons (.iff (.val (.isi (.var 1) 2)) (.cons (.ret (.and (.isi (.var 0) 2) (.cmp .Eq (.var 0) (.var 1)))) .nil) .nil) (.cons (.iff (.or (.and (.val (.isi (.var 1) 4)) (.not (.val (.isi (.var 0) 4)))) (.and (.val (.isi (.var 1) 3)) (.not (.val (.isi (.var 0) 3))))) (.cons (.ret (.cst (.bl false))) .nil) .nil) (.cons (.ret (.and (.cmp .Eq (.bi 0 (.cons false (.var 0) .nil)) (.bi 0 (.cons false (.var 1) .nil))) (.cmp .Eq (.lc (.cst (.int 1)) (.name 2) (.rng1 (.bi 0 (.cons false (.var 1) .nil))) (.not (.val (.call f (.cons false (.ix (.var 0) (.var 2)) (.cons false (.ix (.var 1) (.var 2)) .nil))))) [2]) (.lst .nil)))) .nil))))))
section
variable {P : Nat → Option Fn} {f : Nat}
theorem same_leaf (hP : P f = some ⟨2, 3, sameCode f⟩) (k : Nat) {d : D} (h : Leaf d) : callK P (k + 1) f [.dat d, .dat d] = .ok (.d (.bl true)) [.dat d, .dat d] := by
  rw [callK_run hP]
  unfold runF sameCode
  rw [if_pos ⟨rfl, rfl⟩]
  rcases h with rfl | ⟨b, rfl⟩ | ⟨i, rfl⟩ | ⟨s, rfl⟩ <;> simp only [runs_nil, runs_cons, run_asg, run_asgT, run_par, run_aug, run_app, run_seti, run_expr, run_iff, run_whl, run_fr, run_ret, run_retN, run_pass, run_brk, run_cont, ev_var, ev_cst, ev_tup, ev_lst, ev_bin, ev_neg, ev_cmp, ev_cmp2, ev_and, ev_or, ev_not, ev_ife, ev_ix, ev_sl, ev_call, ev_bi, ev_isi, ev_mt1, ev_lc, ev_ali, ev_mkT, ev_callT, run_tape, run_mpar, evM_nil, evM_cons, thaw_d, thaw_fr, thaw_pl, asgs, run_gset, run_gpop, glL, putG, setG, fin_next, fin_ret, fin_exc, fin_any, seq_any, evs_nil, evs_cons, evL_nil, evL_cons, evG_nil, evG_cons, evT_yes, evT_not, evT_and, evT_or, evT_ife, evT_val, evO_no, evO_so, evI_ex, evI_rng1, evI_rng2, evI_zip, evI_enm, evI_rng3, zip_tup, zip_lst, tru_bl, tru_int, R.bind_ok, FR.of_ok, seq_next, seq_ret, seq_brk, seq_cont, seq_exc, seq_ite, of_some, of_none, get_d, get_fr, get_pl, cont_dat, cont_own, cont_bor, cont_lck, frz_d, frz_fr, asg_d, asg_fr, argF, argT, gets_nil, gets_cons, ags_nil, ags_cons, ag_d, lents_d, lents_pl, lents_nil, backs_nil, backs_d, backs_pl, backW, lock_d, lock_fr, lock_pl, setW, tgD, tgsD, normW, finA, List.getElem?_cons_zero, List.getElem?_cons_succ, List.set_cons_zero, List.set_cons_succ, Option.bind_some, Option.bind_none, Option.map_some, Option.map_none, List.map_cons, List.map_nil, List.replicate, List.cons_append, List.nil_append, Bool.and_true, Bool.and_self, if_true, if_false, Bool.false_eq_true, reduceCtorEq, List.length_cons, List.length_nil, Nat.reduceAdd, Nat.reduceSub, List.all_cons, List.all_nil, List.getD_cons_zero, List.getD_cons_succ, plainVs, backV, wipeW, biD, len_lst, len_tup, len_scr, tupleD, listD, allD, intD, absD, isiD, isiO_non, isiO_bl, isiO_int, isiO_str, isiO_tup, isiO_lst, isiO_scr, len_gl, x_gl, isN, b_add, b_sub, b_mulr, b_mull, b_fdiv, b_mod, b_pow, b_shl, b_shr, b_band, b_bor, b_bxor, b_addt, b_addl, b_repl, c_eqi, c_eqs, c_eqb, c_nei, c_nes, c_lt, c_le, c_gt, c_ge, c_is, c_isn, c_isb, c_isnb, isB, c_in, x_lst, x_tup, x_scr, it_lst, it_tup, it_scr, Bool.not_true, Bool.not_false, id_eq, blsOf, intsOf, strsOf, and_self, true_and, and_true, Nat.reduceMul, Nat.reducePow, Nat.reduceLeDiff, Int.reduceLT, Int.reduceLE, Int.reduceNeg, Int.reducePow, Int.reduceToNat, Int.reduceMul, Int.reduceAdd, Int.reduceSub, List.flatten_cons, List.flatten_nil, List.append_nil, line_nil, line_n, decide_true, decide_false]
theorem same_turns {φ : Phi} {ds : List D} (hl : ds.length ≤ 1000000) (ih : ∀ x ∈ ds, φ f [.dat x, .dat x] = .ok (.d (.bl true)) [.dat x, .dat x]) (d : D) (hd : ∀ j : Int, ixD d (.int j) = L2.atI ds j) :
    lcGo (ev φ (.cst (.int 1))) (.name 2) (evT φ (.not (.val (.call f (.cons false (.ix (.var 0) (.var 2)) (.cons false (.ix (.var 1) (.var 2)) .nil)))))) [2] (rngD 0 ds.length) [.dat d, .dat d, .un] [] = .ok [] [.dat d, .dat d, .un] := by
  rw [lcGo_some (fun _ => false) (fun x => x) (fun x hx => ?_) (fun _ _ z => by cases z) (fun _ => rfl) (fun _ => rfl) (rng_line (by omega))]
  · rw [List.filter_eq_nil_iff.mpr (fun _ _ z => by cases z)]; rfl
  · obtain ⟨j, rfl, h0, h1⟩ := rng_mem hx
    have hj : j.toNat < ds.length := by omega
    have e1 : L2.atI ds j = some ds[j.toNat] := by rw [at_nat h0 (by omega), List.getElem?_eq_getElem hj]
    simp only [runs_nil, runs_cons, run_asg, run_asgT, run_par, run_aug, run_app, run_seti, run_expr, run_iff, run_whl, run_fr, run_ret, run_retN, run_pass, run_brk, run_cont, ev_var, ev_cst, ev_tup, ev_lst, ev_bin, ev_neg, ev_cmp, ev_cmp2, ev_and, ev_or, ev_not, ev_ife, ev_ix, ev_sl, ev_call, ev_bi, ev_isi, ev_mt1, ev_lc, ev_ali, ev_mkT, ev_callT, run_tape, run_mpar, evM_nil, evM_cons, thaw_d, thaw_fr, thaw_pl, asgs, run_gset, run_gpop, glL, putG, setG, fin_next, fin_ret, fin_exc, fin_any, seq_any, evs_nil, evs_cons, evL_nil, evL_cons, evG_nil, evG_cons, evT_yes, evT_not, evT_and, evT_or, evT_ife, evT_val, evO_no, evO_so, evI_ex, evI_rng1, evI_rng2, evI_zip, evI_enm, evI_rng3, zip_tup, zip_lst, tru_bl, tru_int, R.bind_ok, FR.of_ok, seq_next, seq_ret, seq_brk, seq_cont, seq_exc, seq_ite, of_some, of_none, get_d, get_fr, get_pl, cont_dat, cont_own, cont_bor, cont_lck, frz_d, frz_fr, asg_d, asg_fr, argF, argT, gets_nil, gets_cons, ags_nil, ags_cons, ag_d, lents_d, lents_pl, lents_nil, backs_nil, backs_d, backs_pl, backW, lock_d, lock_fr, lock_pl, setW, tgD, tgsD, normW, finA, List.getElem?_cons_zero, List.getElem?_cons_succ, List.set_cons_zero, List.set_cons_succ, Option.bind_some, Option.bind_none, Option.map_some, Option.map_none, List.map_cons, List.map_nil, List.replicate, List.cons_append, List.nil_append, Bool.and_true, Bool.and_self, if_true, if_false, Bool.false_eq_true, reduceCtorEq, List.length_cons, List.length_nil, Nat.reduceAdd, Nat.reduceSub, List.all_cons, List.all_nil, List.getD_cons_zero, List.getD_cons_succ, plainVs, backV, wipeW, biD, len_lst, len_tup, len_scr, tupleD, listD, allD, intD, absD, isiD, isiO_non, isiO_bl, isiO_int, isiO_str, isiO_tup, isiO_lst, isiO_scr, len_gl, x_gl, isN, b_add, b_sub, b_mulr, b_mull, b_fdiv, b_mod, b_pow, b_shl, b_shr, b_band, b_bor, b_bxor, b_addt, b_addl, b_repl, c_eqi, c_eqs, c_eqb, c_nei, c_nes, c_lt, c_le, c_gt, c_ge, c_is, c_isn, c_isb, c_isnb, isB, c_in, x_lst, x_tup, x_scr, it_lst, it_tup, it_scr, Bool.not_true, Bool.not_false, id_eq, blsOf, intsOf, strsOf, and_self, true_and, and_true, Nat.reduceMul, Nat.reducePow, Nat.reduceLeDiff, Int.reduceLT, Int.reduceLE, Int.reduceNeg, Int.reducePow, Int.reduceToNat, Int.reduceMul, Int.reduceAdd, Int.reduceSub, List.flatten_cons, List.flatten_nil, List.append_nil, line_nil, line_n, decide_true, decide_false, hd, e1, callG_2 (ih _ (List.getElem_mem hj))]
theorem same_ok (hP : P f = some ⟨2, 3, sameCode f⟩) (n : Nat) : ∀ (k : Nat) (d : D), Plain n d → callK P (k + n + 1) f [.dat d, .dat d] = .ok (.d (.bl true)) [.dat d, .dat d] := by
  induction n with
  | zero => exact fun k d h => same_leaf hP k h
  | succ n ih =>
    intro k d h
    rcases h with h | ⟨ds, e, hl, hs⟩
    · exact same_leaf hP (k + (n + 1)) h
    · have lc := same_turns (f := f) (φ := callK P (k + n + 1)) hl fun x hx => ih k x (hs x hx)
      have hr : rngOk 0 (ds.length : Int) = true := rngOk_of (by omega) (by omega) (by omega) (by omega)
      rw [show k + (n + 1) + 1 = (k + n + 1) + 1 from by omega, callK_run hP]
      unfold runF sameCode
      rw [if_pos ⟨rfl, rfl⟩]
      rcases e with rfl | rfl
      · simp only [runs_nil, runs_cons, run_asg, run_asgT, run_par, run_aug, run_app, run_seti, run_expr, run_iff, run_whl, run_fr, run_ret, run_retN, run_pass, run_brk, run_cont, ev_var, ev_cst, ev_tup, ev_lst, ev_bin, ev_neg, ev_cmp, ev_cmp2, ev_and, ev_or, ev_not, ev_ife, ev_ix, ev_sl, ev_call, ev_bi, ev_isi, ev_mt1, ev_lc, ev_ali, ev_mkT, ev_callT, run_tape, run_mpar, evM_nil, evM_cons, thaw_d, thaw_fr, thaw_pl, asgs, run_gset, run_gpop, glL, putG, setG, fin_next, fin_ret, fin_exc, fin_any, seq_any, evs_nil, evs_cons, evL_nil, evL_cons, evG_nil, evG_cons, evT_yes, evT_not, evT_and, evT_or, evT_ife, evT_val, evO_no, evO_so, evI_ex, evI_rng1, evI_rng2, evI_zip, evI_enm, evI_rng3, zip_tup, zip_lst, tru_bl, tru_int, R.bind_ok, FR.of_ok, seq_next, seq_ret, seq_brk, seq_cont, seq_exc, seq_ite, of_some, of_none, get_d, get_fr, get_pl, cont_dat, cont_own, cont_bor, cont_lck, frz_d, frz_fr, asg_d, asg_fr, argF, argT, gets_nil, gets_cons, ags_nil, ags_cons, ag_d, lents_d, lents_pl, lents_nil, backs_nil, backs_d, backs_pl, backW, lock_d, lock_fr, lock_pl, setW, tgD, tgsD, normW, finA, List.getElem?_cons_zero, List.getElem?_cons_succ, List.set_cons_zero, List.set_cons_succ, Option.bind_some, Option.bind_none, Option.map_some, Option.map_none, List.map_cons, List.map_nil, List.replicate, List.cons_append, List.nil_append, Bool.and_true, Bool.and_self, if_true, if_false, Bool.false_eq_true, reduceCtorEq, List.length_cons, List.length_nil, Nat.reduceAdd, Nat.reduceSub, List.all_cons, List.all_nil, List.getD_cons_zero, List.getD_cons_succ, plainVs, backV, wipeW, biD, len_lst, len_tup, len_scr, tupleD, listD, allD, intD, absD, isiD, isiO_non, isiO_bl, isiO_int, isiO_str, isiO_tup, isiO_lst, isiO_scr, len_gl, x_gl, isN, b_add, b_sub, b_mulr, b_mull, b_fdiv, b_mod, b_pow, b_shl, b_shr, b_band, b_bor, b_bxor, b_addt, b_addl, b_repl, c_eqi, c_eqs, c_eqb, c_nei, c_nes, c_lt, c_le, c_gt, c_ge, c_is, c_isn, c_isb, c_isnb, isB, c_in, x_lst, x_tup, x_scr, it_lst, it_tup, it_scr, Bool.not_true, Bool.not_false, id_eq, blsOf, intsOf, strsOf, and_self, true_and, and_true, Nat.reduceMul, Nat.reducePow, Nat.reduceLeDiff, Int.reduceLT, Int.reduceLE, Int.reduceNeg, Int.reducePow, Int.reduceToNat, Int.reduceMul, Int.reduceAdd, Int.reduceSub, List.flatten_cons, List.flatten_nil, List.append_nil, line_nil, line_n, decide_true, decide_false, hr]
        rw [lcRun_ok rfl (lc _ fun _ => rfl)]
        simp only [runs_nil, runs_cons, run_asg, run_asgT, run_par, run_aug, run_app, run_seti, run_expr, run_iff, run_whl, run_fr, run_ret, run_retN, run_pass, run_brk, run_cont, ev_var, ev_cst, ev_tup, ev_lst, ev_bin, ev_neg, ev_cmp, ev_cmp2, ev_and, ev_or, ev_not, ev_ife, ev_ix, ev_sl, ev_call, ev_bi, ev_isi, ev_mt1, ev_lc, ev_ali, ev_mkT, ev_callT, run_tape, run_mpar, evM_nil, evM_cons, thaw_d, thaw_fr, thaw_pl, asgs, run_gset, run_gpop, glL, putG, setG, fin_next, fin_ret, fin_exc, fin_any, seq_any, evs_nil, evs_cons, evL_nil, evL_cons, evG_nil, evG_cons, evT_yes, evT_not, evT_and, evT_or, evT_ife, evT_val, evO_no, evO_so, evI_ex, evI_rng1, evI_rng2, evI_zip, evI_enm, evI_rng3, zip_tup, zip_lst, tru_bl, tru_int, R.bind_ok, FR.of_ok, seq_next, seq_ret, seq_brk, seq_cont, seq_exc, seq_ite, of_some, of_none, get_d, get_fr, get_pl, cont_dat, cont_own, cont_bor, cont_lck, frz_d, frz_fr, asg_d, asg_fr, argF, argT, gets_nil, gets_cons, ags_nil, ags_cons, ag_d, lents_d, lents_pl, lents_nil, backs_nil, backs_d, backs_pl, backW, lock_d, lock_fr, lock_pl, setW, tgD, tgsD, normW, finA, List.getElem?_cons_zero, List.getElem?_cons_succ, List.set_cons_zero, List.set_cons_succ, Option.bind_some, Option.bind_none, Option.map_some, Option.map_none, List.map_cons, List.map_nil, List.replicate, List.cons_append, List.nil_append, Bool.and_true, Bool.and_self, if_true, if_false, Bool.false_eq_true, reduceCtorEq, List.length_cons, List.length_nil, Nat.reduceAdd, Nat.reduceSub, List.all_cons, List.all_nil, List.getD_cons_zero, List.getD_cons_succ, plainVs, backV, wipeW, biD, len_lst, len_tup, len_scr, tupleD, listD, allD, intD, absD, isiD, isiO_non, isiO_bl, isiO_int, isiO_str, isiO_tup, isiO_lst, isiO_scr, len_gl, x_gl, isN, b_add, b_sub, b_mulr, b_mull, b_fdiv, b_mod, b_pow, b_shl, b_shr, b_band, b_bor, b_bxor, b_addt, b_addl, b_repl, c_eqi, c_eqs, c_eqb, c_nei, c_nes, c_lt, c_le, c_gt, c_ge, c_is, c_isn, c_isb, c_isnb, isB, c_in, x_lst, x_tup, x_scr, it_lst, it_tup, it_scr, Bool.not_true, Bool.not_false, id_eq, blsOf, intsOf, strsOf, and_self, true_and, and_true, Nat.reduceMul, Nat.reducePow, Nat.reduceLeDiff, Int.reduceLT, Int.reduceLE, Int.reduceNeg, Int.reducePow, Int.reduceToNat, Int.reduceMul, Int.reduceAdd, Int.reduceSub, List.flatten_cons, List.flatten_nil, List.append_nil, line_nil, line_n, decide_true, decide_false, c_eql, eqd_nil]
      · simp only [runs_nil, runs_cons, run_asg, run_asgT, run_par, run_aug, run_app, run_seti, run_expr, run_iff, run_whl, run_fr, run_ret, run_retN, run_pass, run_brk, run_cont, ev_var, ev_cst, ev_tup, ev_lst, ev_bin, ev_neg, ev_cmp, ev_cmp2, ev_and, ev_or, ev_not, ev_ife, ev_ix, ev_sl, ev_call, ev_bi, ev_isi, ev_mt1, ev_lc, ev_ali, ev_mkT, ev_callT, run_tape, run_mpar, evM_nil, evM_cons, thaw_d, thaw_fr, thaw_pl, asgs, run_gset, run_gpop, glL, putG, setG, fin_next, fin_ret, fin_exc, fin_any, seq_any, evs_nil, evs_cons, evL_nil, evL_cons, evG_nil, evG_cons, evT_yes, evT_not, evT_and, evT_or, evT_ife, evT_val, evO_no, evO_so, evI_ex, evI_rng1, evI_rng2, evI_zip, evI_enm, evI_rng3, zip_tup, zip_lst, tru_bl, tru_int, R.bind_ok, FR.of_ok, seq_next, seq_ret, seq_brk, seq_cont, seq_exc, seq_ite, of_some, of_none, get_d, get_fr, get_pl, cont_dat, cont_own, cont_bor, cont_lck, frz_d, frz_fr, asg_d, asg_fr, argF, argT, gets_nil, gets_cons, ags_nil, ags_cons, ag_d, lents_d, lents_pl, lents_nil, backs_nil, backs_d, backs_pl, backW, lock_d, lock_fr, lock_pl, setW, tgD, tgsD, normW, finA, List.getElem?_cons_zero, List.getElem?_cons_succ, List.set_cons_zero, List.set_cons_succ, Option.bind_some, Option.bind_none, Option.map_some, Option.map_none, List.map_cons, List.map_nil, List.replicate, List.cons_append, List.nil_append, Bool.and_true, Bool.and_self, if_true, if_false, Bool.false_eq_true, reduceCtorEq, List.length_cons, List.length_nil, Nat.reduceAdd, Nat.reduceSub, List.all_cons, List.all_nil, List.getD_cons_zero, List.getD_cons_succ, plainVs, backV, wipeW, biD, len_lst, len_tup, len_scr, tupleD, listD, allD, intD, absD, isiD, isiO_non, isiO_bl, isiO_int, isiO_str, isiO_tup, isiO_lst, isiO_scr, len_gl, x_gl, isN, b_add, b_sub, b_mulr, b_mull, b_fdiv, b_mod, b_pow, b_shl, b_shr, b_band, b_bor, b_bxor, b_addt, b_addl, b_repl, c_eqi, c_eqs, c_eqb, c_nei, c_nes, c_lt, c_le, c_gt, c_ge, c_is, c_isn, c_isb, c_isnb, isB, c_in, x_lst, x_tup, x_scr, it_lst, it_tup, it_scr, Bool.not_true, Bool.not_false, id_eq, blsOf, intsOf, strsOf, and_self, true_and, and_true, Nat.reduceMul, Nat.reducePow, Nat.reduceLeDiff, Int.reduceLT, Int.reduceLE, Int.reduceNeg, Int.reducePow, Int.reduceToNat, Int.reduceMul, Int.reduceAdd, Int.reduceSub, List.flatten_cons, List.flatten_nil, List.append_nil, line_nil, line_n, decide_true, decide_false, hr]
        rw [lcRun_ok rfl (lc _ fun _ => rfl)]
        simp only [runs_nil, runs_cons, run_asg, run_asgT, run_par, run_aug, run_app, run_seti, run_expr, run_iff, run_whl, run_fr, run_ret, run_retN, run_pass, run_brk, run_cont, ev_var, ev_cst, ev_tup, ev_lst, ev_bin, ev_neg, ev_cmp, ev_cmp2, ev_and, ev_or, ev_not, ev_ife, ev_ix, ev_sl, ev_call, ev_bi, ev_isi, ev_mt1, ev_lc, ev_ali, ev_mkT, ev_callT, run_tape, run_mpar, evM_nil, evM_cons, thaw_d, thaw_fr, thaw_pl, asgs, run_gset, run_gpop, glL, putG, setG, fin_next, fin_ret, fin_exc, fin_any, seq_any, evs_nil, evs_cons, evL_nil, evL_cons, evG_nil, evG_cons, evT_yes, evT_not, evT_and, evT_or, evT_ife, evT_val, evO_no, evO_so, evI_ex, evI_rng1, evI_rng2, evI_zip, evI_enm, evI_rng3, zip_tup, zip_lst, tru_bl, tru_int, R.bind_ok, FR.of_ok, seq_next, seq_ret, seq_brk, seq_cont, seq_exc, seq_ite, of_some, of_none, get_d, get_fr, get_pl, cont_dat, cont_own, cont_bor, cont_lck, frz_d, frz_fr, asg_d, asg_fr, argF, argT, gets_nil, gets_cons, ags_nil, ags_cons, ag_d, lents_d, lents_pl, lents_nil, backs_nil, backs_d, backs_pl, backW, lock_d, lock_fr, lock_pl, setW, tgD, tgsD, normW, finA, List.getElem?_cons_zero, List.getElem?_cons_succ, List.set_cons_zero, List.set_cons_succ, Option.bind_some, Option.bind_none, Option.map_some, Option.map_none, List.map_cons, List.map_nil, List.replicate, List.cons_append, List.nil_append, Bool.and_true, Bool.and_self, if_true, if_false, Bool.false_eq_true, reduceCtorEq, List.length_cons, List.length_nil, Nat.reduceAdd, Nat.reduceSub, List.all_cons, List.all_nil, List.getD_cons_zero, List.getD_cons_succ, plainVs, backV, wipeW, biD, len_lst, len_tup, len_scr, tupleD, listD, allD, intD, absD, isiD, isiO_non, isiO_bl, isiO_int, isiO_str, isiO_tup, isiO_lst, isiO_scr, len_gl, x_gl, isN, b_add, b_sub, b_mulr, b_mull, b_fdiv, b_mod, b_pow, b_shl, b_shr, b_band, b_bor, b_bxor, b_addt, b_addl, b_repl, c_eqi, c_eqs, c_eqb, c_nei, c_nes, c_lt, c_le, c_gt, c_ge, c_is, c_isn, c_isb, c_isnb, isB, c_in, x_lst, x_tup, x_scr, it_lst, it_tup, it_scr, Bool.not_true, Bool.not_false, id_eq, blsOf, intsOf, strsOf, and_self, true_and, and_true, Nat.reduceMul, Nat.reducePow, Nat.reduceLeDiff, Int.reduceLT, Int.reduceLE, Int.reduceNeg, Int.reducePow, Int.reduceToNat, Int.reduceMul, Int.reduceAdd, Int.reduceSub, List.flatten_cons, List.flatten_nil, List.append_nil, line_nil, line_n, decide_true, decide_false, c_eql, eqd_nil]
/-! ### the draws of one kind -/
def pickCode : Ss := (.cons (.iff (.and (.val (.cmp .Eq (.ix (.var 0) (.cst (.int 2))) (.cst (.int 0)))) (.val (.cmp .Lt (.ix (.var 0) (.cst (.int 1))) (.bi 0 (.cons false (.ix (.var 0) (.cst (.int 0))) .nil))))) (.cons (.asg (.name 2) (.bi 7 (.cons false (.ix (.ix (.var 0) (.cst (.int 0))) (.ix (.var 0) (.cst (.int 1)))) .nil))) (.cons (.seti 0 (.cst (.int 1)) (.bin .Add (.ix (.var 0) (.cst (.int 1))) (.cst (.int 1)))) (.cons (.iff (.val (.cmp .GtE (.var 2) (.bin .Pow (.cst (.int 10)) (.cst (.int 18))))) (.cons (.seti 0 (.cst (.int 2)) (.var 2)) .nil) (.cons (.seti 0 (.cst (.int 3)) (.bin .Add (.bin .Mod (.bi 6 (.cons false (.bin .Add (.bin .Mult (.ix (.var 0) (.cst (.int 3))) (.cst (.int 48271))) (.var 2)) .nil)) (.cst (.int 2147483646))) (.cst (.int 1)))) .nil)) .nil))) .nil) (.cons (.iff (.val (.cmp .Gt (.ix (.var 0) (.cst (.int 2))) (.cst (.int 0)))) (.cons (.asg (.name 3) (.bin .Mod (.bi 6 (.cons false (.ix (.var 0) (.cst (.int 2))) .nil)) (.var 1))) (.cons (.seti 0 (.cst (.int 2)) (.bin .FloorDiv (.ix (.var 0) (.cst (.int 2))) (.var 1))) (.cons (.ret (.var 3)) .nil))) .nil) (.cons (.seti 0 (.cst (.int 3)) (.bin .Mod (.bi 6 (.cons false (.bin .Mult (.ix (.var 0) (.cst (.int 3))) (.cst (.int 48271))) .nil)) (.cst (.int 2147483647)))) (.cons (.ret (.bin .Mod (.bi 6 (.cons false (.bin .Add (.bin .FloorDiv (.ix (.var 0) (.cst (.int 3))) (.cst (.int 5))) (.bin .Mod (.bi 6 (.cons false (.bin .Mult (.ix (.var 0) (.cst (.int 3))) (.ix (.var 0) (.cst (.int 3)))) .nil)) (.cst (.int 2147483629)))) .nil)) (.var 1))) .nil))))
/-- the state of such draws -/
def PickSt (d : D) : Prop := ∃ (xs : List Int) (p r s : Int), d = .lst [.scr (xs.map .int), .int p, .int r, .int s] ∧ 0 ≤ p ∧ 0 ≤ r ∧ 0 ≤ s ∧ s < 4294967296
theorem pick_ok (hP : P f = some ⟨2, 4, pickCode⟩) (k : Nat) {d : D} {many : Int} (t : PickSt d) (h1 : 0 < many) (h2 : many < 1073741824) : ∃ v d', callK P (k + 1) f [.bor d, .dat (.int many)] = .ok (.d (.int v)) [.bor d', .dat (.int many)] ∧ PickSt d' ∧ 0 ≤ v ∧ v < many := by
  obtain ⟨xs, p, r, s, rfl, hp, hr, hs0, hs1⟩ := t
  have hm : many ≠ 0 := by omega
  have fin : ∀ (xs : List Int) (p r s a : Int), 0 ≤ p → 0 ≤ r → 0 ≤ s → s < 4294967296 → ∃ v d', CO.ok (.d (.int (a % many))) [.bor (.lst [.scr (xs.map .int), .int p, .int r, .int s]), .dat (.int many)] = .ok (.d (.int v)) [.bor d', .dat (.int many)] ∧ PickSt d' ∧ 0 ≤ v ∧ v < many := fun xs p r s a hp hr h0 h1' =>
    ⟨_, _, rfl, ⟨xs, p, r, s, rfl, hp, hr, h0, h1'⟩, Int.emod_nonneg _ hm, Int.emod_lt_of_pos _ h1⟩
  have md : ∀ x : Int, 0 ≤ x % 2147483647 ∧ x % 2147483647 < 4294967296 := fun x => by omega
  have me : ∀ x : Int, 0 ≤ x % 2147483646 + 1 ∧ x % 2147483646 + 1 < 4294967296 := fun x => by omega
  have sq : ∀ x : Int, 0 ≤ x % 2147483647 → binD .Mult (.int (x % 2147483647)) (.int (x % 2147483647)) = some (.d (.int (x % 2147483647 * (x % 2147483647)))) := fun x h => b_mulr _ _ (by omega)
  rw [callK_run hP]
  unfold runF pickCode
  rw [if_pos ⟨rfl, rfl⟩]
  have e18 : binD .Pow (.int 10) (.int 18) = some (.d (.int 1000000000000000000)) := by kernel_rfl
  by_cases h0 : r = 0
  · subst h0
    by_cases hl : p < xs.length
    · obtain ⟨v, hv⟩ := at_ints hp hl
      have hv0 : 0 ≤ (if v < 0 then -v else v) := by split <;> omega
      by_cases hc : 1000000000000000000 ≤ (if v < 0 then -v else v)
      · have hc0 : 0 < (if v < 0 then -v else v) := by omega
        simp only [runs_nil, runs_cons, run_asg, run_asgT, run_par, run_aug, run_app, run_seti, run_expr, run_iff, run_whl, run_fr, run_ret, run_retN, run_pass, run_brk, run_cont, ev_var, ev_cst, ev_tup, ev_lst, ev_bin, ev_neg, ev_cmp, ev_cmp2, ev_and, ev_or, ev_not, ev_ife, ev_ix, ev_sl, ev_call, ev_bi, ev_isi, ev_mt1, ev_lc, ev_ali, ev_mkT, ev_callT, run_tape, run_mpar, evM_nil, evM_cons, thaw_d, thaw_fr, thaw_pl, asgs, run_gset, run_gpop, glL, putG, setG, fin_next, fin_ret, fin_exc, fin_any, seq_any, evs_nil, evs_cons, evL_nil, evL_cons, evG_nil, evG_cons, evT_yes, evT_not, evT_and, evT_or, evT_ife, evT_val, evO_no, evO_so, evI_ex, evI_rng1, evI_rng2, evI_zip, evI_enm, evI_rng3, zip_tup, zip_lst, tru_bl, tru_int, R.bind_ok, FR.of_ok, seq_next, seq_ret, seq_brk, seq_cont, seq_exc, seq_ite, of_some, of_none, get_d, get_fr, get_pl, cont_dat, cont_own, cont_bor, cont_lck, frz_d, frz_fr, asg_d, asg_fr, argF, argT, gets_nil, gets_cons, ags_nil, ags_cons, ag_d, lents_d, lents_pl, lents_nil, backs_nil, backs_d, backs_pl, backW, lock_d, lock_fr, lock_pl, setW, tgD, tgsD, normW, finA, List.getElem?_cons_zero, List.getElem?_cons_succ, List.set_cons_zero, List.set_cons_succ, Option.bind_some, Option.bind_none, Option.map_some, Option.map_none, List.map_cons, List.map_nil, List.replicate, List.cons_append, List.nil_append, Bool.and_true, Bool.and_self, if_true, if_false, Bool.false_eq_true, reduceCtorEq, List.length_cons, List.length_nil, Nat.reduceAdd, Nat.reduceSub, List.all_cons, List.all_nil, List.getD_cons_zero, List.getD_cons_succ, plainVs, backV, wipeW, biD, len_lst, len_tup, len_scr, tupleD, listD, allD, intD, absD, isiD, isiO_non, isiO_bl, isiO_int, isiO_str, isiO_tup, isiO_lst, isiO_scr, len_gl, x_gl, isN, b_add, b_sub, b_mulr, b_mull, b_fdiv, b_mod, b_pow, b_shl, b_shr, b_band, b_bor, b_bxor, b_addt, b_addl, b_repl, c_eqi, c_eqs, c_eqb, c_nei, c_nes, c_lt, c_le, c_gt, c_ge, c_is, c_isn, c_isb, c_isnb, isB, c_in, x_lst, x_tup, x_scr, it_lst, it_tup, it_scr, Bool.not_true, Bool.not_false, id_eq, blsOf, intsOf, strsOf, and_self, true_and, and_true, Nat.reduceMul, Nat.reducePow, Nat.reduceLeDiff, Int.reduceLT, Int.reduceLE, Int.reduceNeg, Int.reducePow, Int.reduceToNat, Int.reduceMul, Int.reduceAdd, Int.reduceSub, List.flatten_cons, List.flatten_nil, List.append_nil, line_nil, line_n, decide_true, decide_false, e18, at4_0, at4_1, at4_2, at4_3, ix4_1, ix4_2, ix4_3, hv, hl, ownL, putL, List.length_map, hc, hc0, h1, h2]
        exact fin _ _ _ _ _ (by omega) (Int.ediv_nonneg hv0 (by omega)) hs0 hs1
      · simp only [runs_nil, runs_cons, run_asg, run_asgT, run_par, run_aug, run_app, run_seti, run_expr, run_iff, run_whl, run_fr, run_ret, run_retN, run_pass, run_brk, run_cont, ev_var, ev_cst, ev_tup, ev_lst, ev_bin, ev_neg, ev_cmp, ev_cmp2, ev_and, ev_or, ev_not, ev_ife, ev_ix, ev_sl, ev_call, ev_bi, ev_isi, ev_mt1, ev_lc, ev_ali, ev_mkT, ev_callT, run_tape, run_mpar, evM_nil, evM_cons, thaw_d, thaw_fr, thaw_pl, asgs, run_gset, run_gpop, glL, putG, setG, fin_next, fin_ret, fin_exc, fin_any, seq_any, evs_nil, evs_cons, evL_nil, evL_cons, evG_nil, evG_cons, evT_yes, evT_not, evT_and, evT_or, evT_ife, evT_val, evO_no, evO_so, evI_ex, evI_rng1, evI_rng2, evI_zip, evI_enm, evI_rng3, zip_tup, zip_lst, tru_bl, tru_int, R.bind_ok, FR.of_ok, seq_next, seq_ret, seq_brk, seq_cont, seq_exc, seq_ite, of_some, of_none, get_d, get_fr, get_pl, cont_dat, cont_own, cont_bor, cont_lck, frz_d, frz_fr, asg_d, asg_fr, argF, argT, gets_nil, gets_cons, ags_nil, ags_cons, ag_d, lents_d, lents_pl, lents_nil, backs_nil, backs_d, backs_pl, backW, lock_d, lock_fr, lock_pl, setW, tgD, tgsD, normW, finA, List.getElem?_cons_zero, List.getElem?_cons_succ, List.set_cons_zero, List.set_cons_succ, Option.bind_some, Option.bind_none, Option.map_some, Option.map_none, List.map_cons, List.map_nil, List.replicate, List.cons_append, List.nil_append, Bool.and_true, Bool.and_self, if_true, if_false, Bool.false_eq_true, reduceCtorEq, List.length_cons, List.length_nil, Nat.reduceAdd, Nat.reduceSub, List.all_cons, List.all_nil, List.getD_cons_zero, List.getD_cons_succ, plainVs, backV, wipeW, biD, len_lst, len_tup, len_scr, tupleD, listD, allD, intD, absD, isiD, isiO_non, isiO_bl, isiO_int, isiO_str, isiO_tup, isiO_lst, isiO_scr, len_gl, x_gl, isN, b_add, b_sub, b_mulr, b_mull, b_fdiv, b_mod, b_pow, b_shl, b_shr, b_band, b_bor, b_bxor, b_addt, b_addl, b_repl, c_eqi, c_eqs, c_eqb, c_nei, c_nes, c_lt, c_le, c_gt, c_ge, c_is, c_isn, c_isb, c_isnb, isB, c_in, x_lst, x_tup, x_scr, it_lst, it_tup, it_scr, Bool.not_true, Bool.not_false, id_eq, blsOf, intsOf, strsOf, and_self, true_and, and_true, Nat.reduceMul, Nat.reducePow, Nat.reduceLeDiff, Int.reduceLT, Int.reduceLE, Int.reduceNeg, Int.reducePow, Int.reduceToNat, Int.reduceMul, Int.reduceAdd, Int.reduceSub, List.flatten_cons, List.flatten_nil, List.append_nil, line_nil, line_n, decide_true, decide_false, e18, at4_0, at4_1, at4_2, at4_3, ix4_1, ix4_2, ix4_3, hv, hl, ownL, putL, List.length_map, hc, h1, h2]
        rw [sq _ (md _).1]
        simp only [runs_nil, runs_cons, run_asg, run_asgT, run_par, run_aug, run_app, run_seti, run_expr, run_iff, run_whl, run_fr, run_ret, run_retN, run_pass, run_brk, run_cont, ev_var, ev_cst, ev_tup, ev_lst, ev_bin, ev_neg, ev_cmp, ev_cmp2, ev_and, ev_or, ev_not, ev_ife, ev_ix, ev_sl, ev_call, ev_bi, ev_isi, ev_mt1, ev_lc, ev_ali, ev_mkT, ev_callT, run_tape, run_mpar, evM_nil, evM_cons, thaw_d, thaw_fr, thaw_pl, asgs, run_gset, run_gpop, glL, putG, setG, fin_next, fin_ret, fin_exc, fin_any, seq_any, evs_nil, evs_cons, evL_nil, evL_cons, evG_nil, evG_cons, evT_yes, evT_not, evT_and, evT_or, evT_ife, evT_val, evO_no, evO_so, evI_ex, evI_rng1, evI_rng2, evI_zip, evI_enm, evI_rng3, zip_tup, zip_lst, tru_bl, tru_int, R.bind_ok, FR.of_ok, seq_next, seq_ret, seq_brk, seq_cont, seq_exc, seq_ite, of_some, of_none, get_d, get_fr, get_pl, cont_dat, cont_own, cont_bor, cont_lck, frz_d, frz_fr, asg_d, asg_fr, argF, argT, gets_nil, gets_cons, ags_nil, ags_cons, ag_d, lents_d, lents_pl, lents_nil, backs_nil, backs_d, backs_pl, backW, lock_d, lock_fr, lock_pl, setW, tgD, tgsD, normW, finA, List.getElem?_cons_zero, List.getElem?_cons_succ, List.set_cons_zero, List.set_cons_succ, Option.bind_some, Option.bind_none, Option.map_some, Option.map_none, List.map_cons, List.map_nil, List.replicate, List.cons_append, List.nil_append, Bool.and_true, Bool.and_self, if_true, if_false, Bool.false_eq_true, reduceCtorEq, List.length_cons, List.length_nil, Nat.reduceAdd, Nat.reduceSub, List.all_cons, List.all_nil, List.getD_cons_zero, List.getD_cons_succ, plainVs, backV, wipeW, biD, len_lst, len_tup, len_scr, tupleD, listD, allD, intD, absD, isiD, isiO_non, isiO_bl, isiO_int, isiO_str, isiO_tup, isiO_lst, isiO_scr, len_gl, x_gl, isN, b_add, b_sub, b_mulr, b_mull, b_fdiv, b_mod, b_pow, b_shl, b_shr, b_band, b_bor, b_bxor, b_addt, b_addl, b_repl, c_eqi, c_eqs, c_eqb, c_nei, c_nes, c_lt, c_le, c_gt, c_ge, c_is, c_isn, c_isb, c_isnb, isB, c_in, x_lst, x_tup, x_scr, it_lst, it_tup, it_scr, Bool.not_true, Bool.not_false, id_eq, blsOf, intsOf, strsOf, and_self, true_and, and_true, Nat.reduceMul, Nat.reducePow, Nat.reduceLeDiff, Int.reduceLT, Int.reduceLE, Int.reduceNeg, Int.reducePow, Int.reduceToNat, Int.reduceMul, Int.reduceAdd, Int.reduceSub, List.flatten_cons, List.flatten_nil, List.append_nil, line_nil, line_n, decide_true, decide_false, h1]
        exact fin _ _ _ _ _ (by omega) (by omega) (md _).1 (md _).2
    · simp only [runs_nil, runs_cons, run_asg, run_asgT, run_par, run_aug, run_app, run_seti, run_expr, run_iff, run_whl, run_fr, run_ret, run_retN, run_pass, run_brk, run_cont, ev_var, ev_cst, ev_tup, ev_lst, ev_bin, ev_neg, ev_cmp, ev_cmp2, ev_and, ev_or, ev_not, ev_ife, ev_ix, ev_sl, ev_call, ev_bi, ev_isi, ev_mt1, ev_lc, ev_ali, ev_mkT, ev_callT, run_tape, run_mpar, evM_nil, evM_cons, thaw_d, thaw_fr, thaw_pl, asgs, run_gset, run_gpop, glL, putG, setG, fin_next, fin_ret, fin_exc, fin_any, seq_any, evs_nil, evs_cons, evL_nil, evL_cons, evG_nil, evG_cons, evT_yes, evT_not, evT_and, evT_or, evT_ife, evT_val, evO_no, evO_so, evI_ex, evI_rng1, evI_rng2, evI_zip, evI_enm, evI_rng3, zip_tup, zip_lst, tru_bl, tru_int, R.bind_ok, FR.of_ok, seq_next, seq_ret, seq_brk, seq_cont, seq_exc, seq_ite, of_some, of_none, get_d, get_fr, get_pl, cont_dat, cont_own, cont_bor, cont_lck, frz_d, frz_fr, asg_d, asg_fr, argF, argT, gets_nil, gets_cons, ags_nil, ags_cons, ag_d, lents_d, lents_pl, lents_nil, backs_nil, backs_d, backs_pl, backW, lock_d, lock_fr, lock_pl, setW, tgD, tgsD, normW, finA, List.getElem?_cons_zero, List.getElem?_cons_succ, List.set_cons_zero, List.set_cons_succ, Option.bind_some, Option.bind_none, Option.map_some, Option.map_none, List.map_cons, List.map_nil, List.replicate, List.cons_append, List.nil_append, Bool.and_true, Bool.and_self, if_true, if_false, Bool.false_eq_true, reduceCtorEq, List.length_cons, List.length_nil, Nat.reduceAdd, Nat.reduceSub, List.all_cons, List.all_nil, List.getD_cons_zero, List.getD_cons_succ, plainVs, backV, wipeW, biD, len_lst, len_tup, len_scr, tupleD, listD, allD, intD, absD, isiD, isiO_non, isiO_bl, isiO_int, isiO_str, isiO_tup, isiO_lst, isiO_scr, len_gl, x_gl, isN, b_add, b_sub, b_mulr, b_mull, b_fdiv, b_mod, b_pow, b_shl, b_shr, b_band, b_bor, b_bxor, b_addt, b_addl, b_repl, c_eqi, c_eqs, c_eqb, c_nei, c_nes, c_lt, c_le, c_gt, c_ge, c_is, c_isn, c_isb, c_isnb, isB, c_in, x_lst, x_tup, x_scr, it_lst, it_tup, it_scr, Bool.not_true, Bool.not_false, id_eq, blsOf, intsOf, strsOf, and_self, true_and, and_true, Nat.reduceMul, Nat.reducePow, Nat.reduceLeDiff, Int.reduceLT, Int.reduceLE, Int.reduceNeg, Int.reducePow, Int.reduceToNat, Int.reduceMul, Int.reduceAdd, Int.reduceSub, List.flatten_cons, List.flatten_nil, List.append_nil, line_nil, line_n, decide_true, decide_false, e18, at4_0, at4_1, at4_2, at4_3, ix4_1, ix4_2, ix4_3, hl, ownL, putL, List.length_map, h1, h2]
      rw [sq _ (md _).1]
      simp only [runs_nil, runs_cons, run_asg, run_asgT, run_par, run_aug, run_app, run_seti, run_expr, run_iff, run_whl, run_fr, run_ret, run_retN, run_pass, run_brk, run_cont, ev_var, ev_cst, ev_tup, ev_lst, ev_bin, ev_neg, ev_cmp, ev_cmp2, ev_and, ev_or, ev_not, ev_ife, ev_ix, ev_sl, ev_call, ev_bi, ev_isi, ev_mt1, ev_lc, ev_ali, ev_mkT, ev_callT, run_tape, run_mpar, evM_nil, evM_cons, thaw_d, thaw_fr, thaw_pl, asgs, run_gset, run_gpop, glL, putG, setG, fin_next, fin_ret, fin_exc, fin_any, seq_any, evs_nil, evs_cons, evL_nil, evL_cons, evG_nil, evG_cons, evT_yes, evT_not, evT_and, evT_or, evT_ife, evT_val, evO_no, evO_so, evI_ex, evI_rng1, evI_rng2, evI_zip, evI_enm, evI_rng3, zip_tup, zip_lst, tru_bl, tru_int, R.bind_ok, FR.of_ok, seq_next, seq_ret, seq_brk, seq_cont, seq_exc, seq_ite, of_some, of_none, get_d, get_fr, get_pl, cont_dat, cont_own, cont_bor, cont_lck, frz_d, frz_fr, asg_d, asg_fr, argF, argT, gets_nil, gets_cons, ags_nil, ags_cons, ag_d, lents_d, lents_pl, lents_nil, backs_nil, backs_d, backs_pl, backW, lock_d, lock_fr, lock_pl, setW, tgD, tgsD, normW, finA, List.getElem?_cons_zero, List.getElem?_cons_succ, List.set_cons_zero, List.set_cons_succ, Option.bind_some, Option.bind_none, Option.map_some, Option.map_none, List.map_cons, List.map_nil, List.replicate, List.cons_append, List.nil_append, Bool.and_true, Bool.and_self, if_true, if_false, Bool.false_eq_true, reduceCtorEq, List.length_cons, List.length_nil, Nat.reduceAdd, Nat.reduceSub, List.all_cons, List.all_nil, List.getD_cons_zero, List.getD_cons_succ, plainVs, backV, wipeW, biD, len_lst, len_tup, len_scr, tupleD, listD, allD, intD, absD, isiD, isiO_non, isiO_bl, isiO_int, isiO_str, isiO_tup, isiO_lst, isiO_scr, len_gl, x_gl, isN, b_add, b_sub, b_mulr, b_mull, b_fdiv, b_mod, b_pow, b_shl, b_shr, b_band, b_bor, b_bxor, b_addt, b_addl, b_repl, c_eqi, c_eqs, c_eqb, c_nei, c_nes, c_lt, c_le, c_gt, c_ge, c_is, c_isn, c_isb, c_isnb, isB, c_in, x_lst, x_tup, x_scr, it_lst, it_tup, it_scr, Bool.not_true, Bool.not_false, id_eq, blsOf, intsOf, strsOf, and_self, true_and, and_true, Nat.reduceMul, Nat.reducePow, Nat.reduceLeDiff, Int.reduceLT, Int.reduceLE, Int.reduceNeg, Int.reducePow, Int.reduceToNat, Int.reduceMul, Int.reduceAdd, Int.reduceSub, List.flatten_cons, List.flatten_nil, List.append_nil, line_nil, line_n, decide_true, decide_false, h1]
      exact fin _ _ _ _ _ hp (by omega) (md _).1 (md _).2
  · have hr0 : 0 < r := by omega
    simp only [runs_nil, runs_cons, run_asg, run_asgT, run_par, run_aug, run_app, run_seti, run_expr, run_iff, run_whl, run_fr, run_ret, run_retN, run_pass, run_brk, run_cont, ev_var, ev_cst, ev_tup, ev_lst, ev_bin, ev_neg, ev_cmp, ev_cmp2, ev_and, ev_or, ev_not, ev_ife, ev_ix, ev_sl, ev_call, ev_bi, ev_isi, ev_mt1, ev_lc, ev_ali, ev_mkT, ev_callT, run_tape, run_mpar, evM_nil, evM_cons, thaw_d, thaw_fr, thaw_pl, asgs, run_gset, run_gpop, glL, putG, setG, fin_next, fin_ret, fin_exc, fin_any, seq_any, evs_nil, evs_cons, evL_nil, evL_cons, evG_nil, evG_cons, evT_yes, evT_not, evT_and, evT_or, evT_ife, evT_val, evO_no, evO_so, evI_ex, evI_rng1, evI_rng2, evI_zip, evI_enm, evI_rng3, zip_tup, zip_lst, tru_bl, tru_int, R.bind_ok, FR.of_ok, seq_next, seq_ret, seq_brk, seq_cont, seq_exc, seq_ite, of_some, of_none, get_d, get_fr, get_pl, cont_dat, cont_own, cont_bor, cont_lck, frz_d, frz_fr, asg_d, asg_fr, argF, argT, gets_nil, gets_cons, ags_nil, ags_cons, ag_d, lents_d, lents_pl, lents_nil, backs_nil, backs_d, backs_pl, backW, lock_d, lock_fr, lock_pl, setW, tgD, tgsD, normW, finA, List.getElem?_cons_zero, List.getElem?_cons_succ, List.set_cons_zero, List.set_cons_succ, Option.bind_some, Option.bind_none, Option.map_some, Option.map_none, List.map_cons, List.map_nil, List.replicate, List.cons_append, List.nil_append, Bool.and_true, Bool.and_self, if_true, if_false, Bool.false_eq_true, reduceCtorEq, List.length_cons, List.length_nil, Nat.reduceAdd, Nat.reduceSub, List.all_cons, List.all_nil, List.getD_cons_zero, List.getD_cons_succ, plainVs, backV, wipeW, biD, len_lst, len_tup, len_scr, tupleD, listD, allD, intD, absD, isiD, isiO_non, isiO_bl, isiO_int, isiO_str, isiO_tup, isiO_lst, isiO_scr, len_gl, x_gl, isN, b_add, b_sub, b_mulr, b_mull, b_fdiv, b_mod, b_pow, b_shl, b_shr, b_band, b_bor, b_bxor, b_addt, b_addl, b_repl, c_eqi, c_eqs, c_eqb, c_nei, c_nes, c_lt, c_le, c_gt, c_ge, c_is, c_isn, c_isb, c_isnb, isB, c_in, x_lst, x_tup, x_scr, it_lst, it_tup, it_scr, Bool.not_true, Bool.not_false, id_eq, blsOf, intsOf, strsOf, and_self, true_and, and_true, Nat.reduceMul, Nat.reducePow, Nat.reduceLeDiff, Int.reduceLT, Int.reduceLE, Int.reduceNeg, Int.reducePow, Int.reduceToNat, Int.reduceMul, Int.reduceAdd, Int.reduceSub, List.flatten_cons, List.flatten_nil, List.append_nil, line_nil, line_n, decide_true, decide_false, e18, at4_0, at4_1, at4_2, at4_3, ix4_1, ix4_2, ix4_3, ownL, putL, List.length_map, h0, hr0, h1, h2]
    exact fin _ _ _ _ _ hp (Int.ediv_nonneg hr (by omega)) hs0 hs1
end
/-! ### loops in a def's text -/
theorem good_fr {a : A} {t : Tg} {b : Env → FR} {ρ1 : Env} {un : Env → Env} {xs : List D} {f : Env → FR} (I : Nat → Env → Prop) (h0 : I 0 ρ1) (step : ∀ (j : Nat) (x : D) (ρ : Env), xs[j]? = some x → I j ρ → ∃ ρ1 ρ2, tgD t x ρ = some ρ1 ∧ b ρ1 = .next ρ2 ∧ I (j + 1) ρ2)
    (k : ∀ ρ', I xs.length ρ' → ∃ ρ2, f (un ρ') = .ret a ρ2) : ∃ ρ2, FR.seq (frRun t b (some (ρ1, un)) xs) f = .ret a ρ2 := by
  obtain ⟨ρ', e, i⟩ := forGo_st (t := t) (b := b) (ρ := ρ1) I rfl (Nat.zero_le _) step h0
  rw [List.drop_zero] at e
  rw [frRun_next e]
  exact k ρ' i
/-- a slot that holds nothing or data -/
def Dull (w : W) : Prop := w = .un ∨ ∃ d, w = .dat d
theorem Dull.un : Dull .un := .inl rfl
theorem Dull.dat (d : D) : Dull (.dat d) := .inr ⟨d, rfl⟩
theorem forGo_fold {t : Tg} {b : Env → FR} {α : Type} (env : α → W → Env) (f : α → D → α) : ∀ {xs : List D} {s : α} {w : W}, Dull w → (∀ s x w, x ∈ xs → Dull w → tgD t x (env s w) = some (env s (.dat x))) → (∀ s x, x ∈ xs → b (env s (.dat x)) = .next (env (f s x) (.dat x))) →
    ∃ w', Dull w' ∧ forGo t b xs (env s w) = .next (env (xs.foldl f s) w')
  | [], s, w, hw, _, _ => ⟨w, hw, rfl⟩
  | x :: xs, s, w, hw, ht, hb => by
    obtain ⟨w', hw', e⟩ := forGo_fold (t := t) (b := b) env f (xs := xs) (s := f s x) (w := .dat x) (.dat x) (fun s y w hy => ht s y w (List.mem_cons_of_mem _ hy)) (fun s y hy => hb s y (List.mem_cons_of_mem _ hy))
    refine ⟨w', hw', ?_⟩
    unfold forGo
    rw [ht s x w (List.mem_cons_self ..) hw]
    dsimp only
    rw [hb s x (List.mem_cons_self ..)]
    exact e

end Pv

namespace Pv
open PySem
/-- a tape's two lists -/
def Tp (b : Nat) (d e : D) : Prop := ∃ (xs : List Int) (s : Int), d = .lst [.adr b, .int s] ∧ e = .gl b (xs.map D.int) ∧ (∀ x ∈ xs, 0 ≤ x) ∧ xs.length ≤ 1000 ∧ 0 ≤ s ∧ s < 4294967296
theorem at_0 {a : D} {l : List D} : L2.atI (a :: l) 0 = some a := by
  unfold L2.atI L2.ixN
  simp
theorem ix_0 {n : Nat} : L2.ixN (n + 1) 0 = some 0 := by
  unfold L2.ixN
  rw [if_pos (by decide), if_pos (by omega)]; rfl
theorem ix2_1 : L2.ixN 2 1 = some 1 := rfl
theorem at2_1 {a b : D} : L2.atI [a, b] 1 = some b := rfl
def popTest : T := .and (.val (.cmp .Gt (.bi 0 (.cons false (.ali 3 2) .nil)) (.cst (.int 0)))) (.val (.cmp .Eq (.ix (.ali 3 2) (.cst (.int 0))) (.cst (.int 0))))
theorem pops {φ : Phi} {a0 a1 a4 : Pv.W} {b : Nat} : ∀ {xs : List Int} {n : Nat}, xs.length < n → (∀ x ∈ xs, 0 ≤ x) → ∃ ys : List Int, whGo (evT φ popTest) (runs φ (.cons (.gpop 3 2) .nil)) n [a0, a1, .bor (.gl b (xs.map D.int)), .dat (.adr b), a4] = .next [a0, a1, .bor (.gl b (ys.map D.int)), .dat (.adr b), a4] ∧ (∀ x ∈ ys, 0 ≤ x) ∧ ys.length ≤ xs.length
  | _, 0, h, _ => absurd h (Nat.not_lt_zero _)
  | [], n + 1, h, p => by
    refine ⟨[], ?_, p, Nat.le_refl _⟩
    unfold whGo popTest
    simp only [runs_nil, runs_cons, run_asg, run_asgT, run_par, run_aug, run_app, run_seti, run_expr, run_iff, run_whl, run_fr, run_ret, run_retN, run_pass, run_brk, run_cont, ev_var, ev_cst, ev_tup, ev_lst, ev_bin, ev_neg, ev_cmp, ev_cmp2, ev_and, ev_or, ev_not, ev_ife, ev_ix, ev_sl, ev_call, ev_bi, ev_isi, ev_mt1, ev_lc, ev_ali, ev_mkT, ev_callT, run_tape, run_mpar, evM_nil, evM_cons, thaw_d, thaw_fr, thaw_pl, asgs, run_gset, run_gpop, glL, putG, setG, fin_next, fin_ret, fin_exc, fin_any, seq_any, evs_nil, evs_cons, evL_nil, evL_cons, evG_nil, evG_cons, evT_yes, evT_not, evT_and, evT_or, evT_ife, evT_val, evO_no, evO_so, evI_ex, evI_rng1, evI_rng2, evI_zip, evI_enm, evI_rng3, zip_tup, zip_lst, tru_bl, tru_int, R.bind_ok, FR.of_ok, seq_next, seq_ret, seq_brk, seq_cont, seq_exc, seq_ite, of_some, of_none, get_d, get_fr, get_pl, cont_dat, cont_own, cont_bor, cont_lck, frz_d, frz_fr, asg_d, asg_fr, argF, argT, gets_nil, gets_cons, ags_nil, ags_cons, ag_d, lents_d, lents_pl, lents_nil, backs_nil, backs_d, backs_pl, backW, lock_d, lock_fr, lock_pl, setW, tgD, tgsD, normW, finA, List.getElem?_cons_zero, List.getElem?_cons_succ, List.set_cons_zero, List.set_cons_succ, Option.bind_some, Option.bind_none, Option.map_some, Option.map_none, List.map_cons, List.map_nil, List.replicate, List.cons_append, List.nil_append, Bool.and_true, Bool.and_self, if_true, if_false, Bool.false_eq_true, reduceCtorEq, List.length_cons, List.length_nil, Nat.reduceAdd, Nat.reduceSub, List.all_cons, List.all_nil, List.getD_cons_zero, List.getD_cons_succ, plainVs, backV, wipeW, biD, len_lst, len_tup, len_scr, tupleD, listD, allD, intD, absD, isiD, isiO_non, isiO_bl, isiO_int, isiO_str, isiO_tup, isiO_lst, isiO_scr, len_gl, x_gl, isN, b_add, b_sub, b_mulr, b_mull, b_fdiv, b_mod, b_pow, b_shl, b_shr, b_band, b_bor, b_bxor, b_addt, b_addl, b_repl, c_eqi, c_eqs, c_eqb, c_nei, c_nes, c_lt, c_le, c_gt, c_ge, c_is, c_isn, c_isb, c_isnb, isB, c_in, x_lst, x_tup, x_scr, it_lst, it_tup, it_scr, Bool.not_true, Bool.not_false, id_eq, blsOf, intsOf, strsOf, and_self, true_and, and_true, Nat.reduceMul, Nat.reducePow, Nat.reduceLeDiff, Int.reduceLT, Int.reduceLE, Int.reduceNeg, Int.reducePow, Int.reduceToNat, Int.reduceMul, Int.reduceAdd, Int.reduceSub, List.flatten_cons, List.flatten_nil, List.append_nil, line_nil, line_n, decide_true, decide_false, eq_self]
    rfl
  | x :: xs, n + 1, h, p => by
    by_cases hx : x = 0
    · obtain ⟨ys, e, q, l⟩ := pops (φ := φ) (a0 := a0) (a1 := a1) (a4 := a4) (b := b) (xs := xs) (n := n) (by simpa using h) fun y hy => p y (List.mem_cons_of_mem _ hy)
      refine ⟨ys, ?_, q, by rw [List.length_cons]; omega⟩
      have hl : ((0 : Int) < ((xs.length + 1 : Nat) : Int)) = True := eq_true (by omega)
      unfold whGo
      have e1 : evT φ popTest [a0, a1, .bor (.gl b ((x :: xs).map D.int)), .dat (.adr b), a4] = .ok true [a0, a1, .bor (.gl b ((x :: xs).map D.int)), .dat (.adr b), a4] := by
        unfold popTest
        simp only [runs_nil, runs_cons, run_asg, run_asgT, run_par, run_aug, run_app, run_seti, run_expr, run_iff, run_whl, run_fr, run_ret, run_retN, run_pass, run_brk, run_cont, ev_var, ev_cst, ev_tup, ev_lst, ev_bin, ev_neg, ev_cmp, ev_cmp2, ev_and, ev_or, ev_not, ev_ife, ev_ix, ev_sl, ev_call, ev_bi, ev_isi, ev_mt1, ev_lc, ev_ali, ev_mkT, ev_callT, run_tape, run_mpar, evM_nil, evM_cons, thaw_d, thaw_fr, thaw_pl, asgs, run_gset, run_gpop, glL, putG, setG, fin_next, fin_ret, fin_exc, fin_any, seq_any, evs_nil, evs_cons, evL_nil, evL_cons, evG_nil, evG_cons, evT_yes, evT_not, evT_and, evT_or, evT_ife, evT_val, evO_no, evO_so, evI_ex, evI_rng1, evI_rng2, evI_zip, evI_enm, evI_rng3, zip_tup, zip_lst, tru_bl, tru_int, R.bind_ok, FR.of_ok, seq_next, seq_ret, seq_brk, seq_cont, seq_exc, seq_ite, of_some, of_none, get_d, get_fr, get_pl, cont_dat, cont_own, cont_bor, cont_lck, frz_d, frz_fr, asg_d, asg_fr, argF, argT, gets_nil, gets_cons, ags_nil, ags_cons, ag_d, lents_d, lents_pl, lents_nil, backs_nil, backs_d, backs_pl, backW, lock_d, lock_fr, lock_pl, setW, tgD, tgsD, normW, finA, List.getElem?_cons_zero, List.getElem?_cons_succ, List.set_cons_zero, List.set_cons_succ, Option.bind_some, Option.bind_none, Option.map_some, Option.map_none, List.map_cons, List.map_nil, List.replicate, List.cons_append, List.nil_append, Bool.and_true, Bool.and_self, if_true, if_false, Bool.false_eq_true, reduceCtorEq, List.length_cons, List.length_nil, Nat.reduceAdd, Nat.reduceSub, List.all_cons, List.all_nil, List.getD_cons_zero, List.getD_cons_succ, plainVs, backV, wipeW, biD, len_lst, len_tup, len_scr, tupleD, listD, allD, intD, absD, isiD, isiO_non, isiO_bl, isiO_int, isiO_str, isiO_tup, isiO_lst, isiO_scr, len_gl, x_gl, isN, b_add, b_sub, b_mulr, b_mull, b_fdiv, b_mod, b_pow, b_shl, b_shr, b_band, b_bor, b_bxor, b_addt, b_addl, b_repl, c_eqi, c_eqs, c_eqb, c_nei, c_nes, c_lt, c_le, c_gt, c_ge, c_is, c_isn, c_isb, c_isnb, isB, c_in, x_lst, x_tup, x_scr, it_lst, it_tup, it_scr, Bool.not_true, Bool.not_false, id_eq, blsOf, intsOf, strsOf, and_self, true_and, and_true, Nat.reduceMul, Nat.reducePow, Nat.reduceLeDiff, Int.reduceLT, Int.reduceLE, Int.reduceNeg, Int.reducePow, Int.reduceToNat, Int.reduceMul, Int.reduceAdd, Int.reduceSub, List.flatten_cons, List.flatten_nil, List.append_nil, line_nil, line_n, decide_true, decide_false, eq_self, at_0, hx, hl, List.length_map]
      rw [e1]
      simp only [runs_nil, runs_cons, run_asg, run_asgT, run_par, run_aug, run_app, run_seti, run_expr, run_iff, run_whl, run_fr, run_ret, run_retN, run_pass, run_brk, run_cont, ev_var, ev_cst, ev_tup, ev_lst, ev_bin, ev_neg, ev_cmp, ev_cmp2, ev_and, ev_or, ev_not, ev_ife, ev_ix, ev_sl, ev_call, ev_bi, ev_isi, ev_mt1, ev_lc, ev_ali, ev_mkT, ev_callT, run_tape, run_mpar, evM_nil, evM_cons, thaw_d, thaw_fr, thaw_pl, asgs, run_gset, run_gpop, glL, putG, setG, fin_next, fin_ret, fin_exc, fin_any, seq_any, evs_nil, evs_cons, evL_nil, evL_cons, evG_nil, evG_cons, evT_yes, evT_not, evT_and, evT_or, evT_ife, evT_val, evO_no, evO_so, evI_ex, evI_rng1, evI_rng2, evI_zip, evI_enm, evI_rng3, zip_tup, zip_lst, tru_bl, tru_int, R.bind_ok, FR.of_ok, seq_next, seq_ret, seq_brk, seq_cont, seq_exc, seq_ite, of_some, of_none, get_d, get_fr, get_pl, cont_dat, cont_own, cont_bor, cont_lck, frz_d, frz_fr, asg_d, asg_fr, argF, argT, gets_nil, gets_cons, ags_nil, ags_cons, ag_d, lents_d, lents_pl, lents_nil, backs_nil, backs_d, backs_pl, backW, lock_d, lock_fr, lock_pl, setW, tgD, tgsD, normW, finA, List.getElem?_cons_zero, List.getElem?_cons_succ, List.set_cons_zero, List.set_cons_succ, Option.bind_some, Option.bind_none, Option.map_some, Option.map_none, List.map_cons, List.map_nil, List.replicate, List.cons_append, List.nil_append, Bool.and_true, Bool.and_self, if_true, if_false, Bool.false_eq_true, reduceCtorEq, List.length_cons, List.length_nil, Nat.reduceAdd, Nat.reduceSub, List.all_cons, List.all_nil, List.getD_cons_zero, List.getD_cons_succ, plainVs, backV, wipeW, biD, len_lst, len_tup, len_scr, tupleD, listD, allD, intD, absD, isiD, isiO_non, isiO_bl, isiO_int, isiO_str, isiO_tup, isiO_lst, isiO_scr, len_gl, x_gl, isN, b_add, b_sub, b_mulr, b_mull, b_fdiv, b_mod, b_pow, b_shl, b_shr, b_band, b_bor, b_bxor, b_addt, b_addl, b_repl, c_eqi, c_eqs, c_eqb, c_nei, c_nes, c_lt, c_le, c_gt, c_ge, c_is, c_isn, c_isb, c_isnb, isB, c_in, x_lst, x_tup, x_scr, it_lst, it_tup, it_scr, Bool.not_true, Bool.not_false, id_eq, blsOf, intsOf, strsOf, and_self, true_and, and_true, Nat.reduceMul, Nat.reducePow, Nat.reduceLeDiff, Int.reduceLT, Int.reduceLE, Int.reduceNeg, Int.reducePow, Int.reduceToNat, Int.reduceMul, Int.reduceAdd, Int.reduceSub, List.flatten_cons, List.flatten_nil, List.append_nil, line_nil, line_n, decide_true, decide_false, eq_self]
      exact e
    · refine ⟨x :: xs, ?_, p, Nat.le_refl _⟩
      have hl : ((0 : Int) < ((xs.length + 1 : Nat) : Int)) = True := eq_true (by omega)
      unfold whGo
      have e1 : evT φ popTest [a0, a1, .bor (.gl b ((x :: xs).map D.int)), .dat (.adr b), a4] = .ok false [a0, a1, .bor (.gl b ((x :: xs).map D.int)), .dat (.adr b), a4] := by
        unfold popTest
        simp only [runs_nil, runs_cons, run_asg, run_asgT, run_par, run_aug, run_app, run_seti, run_expr, run_iff, run_whl, run_fr, run_ret, run_retN, run_pass, run_brk, run_cont, ev_var, ev_cst, ev_tup, ev_lst, ev_bin, ev_neg, ev_cmp, ev_cmp2, ev_and, ev_or, ev_not, ev_ife, ev_ix, ev_sl, ev_call, ev_bi, ev_isi, ev_mt1, ev_lc, ev_ali, ev_mkT, ev_callT, run_tape, run_mpar, evM_nil, evM_cons, thaw_d, thaw_fr, thaw_pl, asgs, run_gset, run_gpop, glL, putG, setG, fin_next, fin_ret, fin_exc, fin_any, seq_any, evs_nil, evs_cons, evL_nil, evL_cons, evG_nil, evG_cons, evT_yes, evT_not, evT_and, evT_or, evT_ife, evT_val, evO_no, evO_so, evI_ex, evI_rng1, evI_rng2, evI_zip, evI_enm, evI_rng3, zip_tup, zip_lst, tru_bl, tru_int, R.bind_ok, FR.of_ok, seq_next, seq_ret, seq_brk, seq_cont, seq_exc, seq_ite, of_some, of_none, get_d, get_fr, get_pl, cont_dat, cont_own, cont_bor, cont_lck, frz_d, frz_fr, asg_d, asg_fr, argF, argT, gets_nil, gets_cons, ags_nil, ags_cons, ag_d, lents_d, lents_pl, lents_nil, backs_nil, backs_d, backs_pl, backW, lock_d, lock_fr, lock_pl, setW, tgD, tgsD, normW, finA, List.getElem?_cons_zero, List.getElem?_cons_succ, List.set_cons_zero, List.set_cons_succ, Option.bind_some, Option.bind_none, Option.map_some, Option.map_none, List.map_cons, List.map_nil, List.replicate, List.cons_append, List.nil_append, Bool.and_true, Bool.and_self, if_true, if_false, Bool.false_eq_true, reduceCtorEq, List.length_cons, List.length_nil, Nat.reduceAdd, Nat.reduceSub, List.all_cons, List.all_nil, List.getD_cons_zero, List.getD_cons_succ, plainVs, backV, wipeW, biD, len_lst, len_tup, len_scr, tupleD, listD, allD, intD, absD, isiD, isiO_non, isiO_bl, isiO_int, isiO_str, isiO_tup, isiO_lst, isiO_scr, len_gl, x_gl, isN, b_add, b_sub, b_mulr, b_mull, b_fdiv, b_mod, b_pow, b_shl, b_shr, b_band, b_bor, b_bxor, b_addt, b_addl, b_repl, c_eqi, c_eqs, c_eqb, c_nei, c_nes, c_lt, c_le, c_gt, c_ge, c_is, c_isn, c_isb, c_isnb, isB, c_in, x_lst, x_tup, x_scr, it_lst, it_tup, it_scr, Bool.not_true, Bool.not_false, id_eq, blsOf, intsOf, strsOf, and_self, true_and, and_true, Nat.reduceMul, Nat.reducePow, Nat.reduceLeDiff, Int.reduceLT, Int.reduceLE, Int.reduceNeg, Int.reducePow, Int.reduceToNat, Int.reduceMul, Int.reduceAdd, Int.reduceSub, List.flatten_cons, List.flatten_nil, List.append_nil, line_nil, line_n, decide_true, decide_false, eq_self, at_0, hx, hl, List.length_map]
      rw [e1]
      simp only [runs_nil, runs_cons, run_asg, run_asgT, run_par, run_aug, run_app, run_seti, run_expr, run_iff, run_whl, run_fr, run_ret, run_retN, run_pass, run_brk, run_cont, ev_var, ev_cst, ev_tup, ev_lst, ev_bin, ev_neg, ev_cmp, ev_cmp2, ev_and, ev_or, ev_not, ev_ife, ev_ix, ev_sl, ev_call, ev_bi, ev_isi, ev_mt1, ev_lc, ev_ali, ev_mkT, ev_callT, run_tape, run_mpar, evM_nil, evM_cons, thaw_d, thaw_fr, thaw_pl, asgs, run_gset, run_gpop, glL, putG, setG, fin_next, fin_ret, fin_exc, fin_any, seq_any, evs_nil, evs_cons, evL_nil, evL_cons, evG_nil, evG_cons, evT_yes, evT_not, evT_and, evT_or, evT_ife, evT_val, evO_no, evO_so, evI_ex, evI_rng1, evI_rng2, evI_zip, evI_enm, evI_rng3, zip_tup, zip_lst, tru_bl, tru_int, R.bind_ok, FR.of_ok, seq_next, seq_ret, seq_brk, seq_cont, seq_exc, seq_ite, of_some, of_none, get_d, get_fr, get_pl, cont_dat, cont_own, cont_bor, cont_lck, frz_d, frz_fr, asg_d, asg_fr, argF, argT, gets_nil, gets_cons, ags_nil, ags_cons, ag_d, lents_d, lents_pl, lents_nil, backs_nil, backs_d, backs_pl, backW, lock_d, lock_fr, lock_pl, setW, tgD, tgsD, normW, finA, List.getElem?_cons_zero, List.getElem?_cons_succ, List.set_cons_zero, List.set_cons_succ, Option.bind_some, Option.bind_none, Option.map_some, Option.map_none, List.map_cons, List.map_nil, List.replicate, List.cons_append, List.nil_append, Bool.and_true, Bool.and_self, if_true, if_false, Bool.false_eq_true, reduceCtorEq, List.length_cons, List.length_nil, Nat.reduceAdd, Nat.reduceSub, List.all_cons, List.all_nil, List.getD_cons_zero, List.getD_cons_succ, plainVs, backV, wipeW, biD, len_lst, len_tup, len_scr, tupleD, listD, allD, intD, absD, isiD, isiO_non, isiO_bl, isiO_int, isiO_str, isiO_tup, isiO_lst, isiO_scr, len_gl, x_gl, isN, b_add, b_sub, b_mulr, b_mull, b_fdiv, b_mod, b_pow, b_shl, b_shr, b_band, b_bor, b_bxor, b_addt, b_addl, b_repl, c_eqi, c_eqs, c_eqb, c_nei, c_nes, c_lt, c_le, c_gt, c_ge, c_is, c_isn, c_isb, c_isnb, isB, c_in, x_lst, x_tup, x_scr, it_lst, it_tup, it_scr, Bool.not_true, Bool.not_false, id_eq, blsOf, intsOf, strsOf, and_self, true_and, and_true, Nat.reduceMul, Nat.reducePow, Nat.reduceLeDiff, Int.reduceLT, Int.reduceLE, Int.reduceNeg, Int.reducePow, Int.reduceToNat, Int.reduceMul, Int.reduceAdd, Int.reduceSub, List.flatten_cons, List.flatten_nil, List.append_nil, line_nil, line_n, decide_true, decide_false, eq_self]
def drawCode : Ss := (.cons (.asg (.name 3) (.ix (.var 0) (.cst (.int 0)))) (.cons (.whl (.and (.val (.cmp .Gt (.bi 0 (.cons false (.ali 3 2) .nil)) (.cst (.int 0)))) (.val (.cmp .Eq (.ix (.ali 3 2) (.cst (.int 0))) (.cst (.int 0))))) (.cons (.gpop 3 2) .nil)) (.cons (.iff (.val (.cmp .Gt (.bi 0 (.cons false (.ali 3 2) .nil)) (.cst (.int 0)))) (.cons (.asg (.name 4) (.ix (.ali 3 2) (.cst (.int 0)))) (.cons (.gset 3 2 (.cst (.int 0)) (.bin .FloorDiv (.var 4) (.var 1))) (.cons (.ret (.bin .Mod (.bi 6 (.cons false (.var 4) .nil)) (.var 1))) .nil))) .nil) (.cons (.seti 0 (.cst (.int 1)) (.bin .Mod (.bi 6 (.cons false (.bin .Add (.bin .Mult (.ix (.var 0) (.cst (.int 1))) (.cst (.int 48271))) (.cst (.int 12345))) .nil)) (.cst (.int 2147483647)))) (.cons (.ret (.bin .Mod (.bi 6 (.cons false (.bin .FloorDiv (.ix (.var 0) (.cst (.int 1))) (.cst (.int 64))) .nil)) (.var 1))) .nil)))))
theorem draw_ok {P : Nat → Option Fn} {f : Nat} (hP : P f = some ⟨3, 5, drawCode⟩) (k : Nat) {b : Nat} {d e : D} {many : Int} (t : Tp b d e) (h1 : 0 < many) (h2 : many < 1073741824) : ∃ v d' e', callK P (k + 1) f [.bor d, .dat (.int many), .bor e] = .ok (.d (.int v)) [.bor d', .dat (.int many), .bor e'] ∧ Tp b d' e' ∧ 0 ≤ v ∧ v < many := by
  obtain ⟨xs, s, rfl, rfl, hp, hl, hs0, hs1⟩ := t
  have hm : many ≠ 0 := by omega
  obtain ⟨ys, e1, q, l⟩ := pops (φ := callK P k) (a0 := .bor (.lst [.adr b, .int s])) (a1 := .dat (.int many)) (a4 := .un) (b := b) (xs := xs) (n := WF) (Nat.lt_of_le_of_lt hl (by decide)) hp
  rw [callK_run hP]
  unfold runF drawCode
  rw [if_pos ⟨rfl, rfl⟩]
  simp only [runs_nil, runs_cons, run_asg, run_asgT, run_par, run_aug, run_app, run_seti, run_expr, run_iff, run_whl, run_fr, run_ret, run_retN, run_pass, run_brk, run_cont, ev_var, ev_cst, ev_tup, ev_lst, ev_bin, ev_neg, ev_cmp, ev_cmp2, ev_and, ev_or, ev_not, ev_ife, ev_ix, ev_sl, ev_call, ev_bi, ev_isi, ev_mt1, ev_lc, ev_ali, ev_mkT, ev_callT, run_tape, run_mpar, evM_nil, evM_cons, thaw_d, thaw_fr, thaw_pl, asgs, run_gset, run_gpop, glL, putG, setG, fin_next, fin_ret, fin_exc, fin_any, seq_any, evs_nil, evs_cons, evL_nil, evL_cons, evG_nil, evG_cons, evT_yes, evT_not, evT_and, evT_or, evT_ife, evT_val, evO_no, evO_so, evI_ex, evI_rng1, evI_rng2, evI_zip, evI_enm, evI_rng3, zip_tup, zip_lst, tru_bl, tru_int, R.bind_ok, FR.of_ok, seq_next, seq_ret, seq_brk, seq_cont, seq_exc, seq_ite, of_some, of_none, get_d, get_fr, get_pl, cont_dat, cont_own, cont_bor, cont_lck, frz_d, frz_fr, asg_d, asg_fr, argF, argT, gets_nil, gets_cons, ags_nil, ags_cons, ag_d, lents_d, lents_pl, lents_nil, backs_nil, backs_d, backs_pl, backW, lock_d, lock_fr, lock_pl, setW, tgD, tgsD, normW, finA, List.getElem?_cons_zero, List.getElem?_cons_succ, List.set_cons_zero, List.set_cons_succ, Option.bind_some, Option.bind_none, Option.map_some, Option.map_none, List.map_cons, List.map_nil, List.replicate, List.cons_append, List.nil_append, Bool.and_true, Bool.and_self, if_true, if_false, Bool.false_eq_true, reduceCtorEq, List.length_cons, List.length_nil, Nat.reduceAdd, Nat.reduceSub, List.all_cons, List.all_nil, List.getD_cons_zero, List.getD_cons_succ, plainVs, backV, wipeW, biD, len_lst, len_tup, len_scr, tupleD, listD, allD, intD, absD, isiD, isiO_non, isiO_bl, isiO_int, isiO_str, isiO_tup, isiO_lst, isiO_scr, len_gl, x_gl, isN, b_add, b_sub, b_mulr, b_mull, b_fdiv, b_mod, b_pow, b_shl, b_shr, b_band, b_bor, b_bxor, b_addt, b_addl, b_repl, c_eqi, c_eqs, c_eqb, c_nei, c_nes, c_lt, c_le, c_gt, c_ge, c_is, c_isn, c_isb, c_isnb, isB, c_in, x_lst, x_tup, x_scr, it_lst, it_tup, it_scr, Bool.not_true, Bool.not_false, id_eq, blsOf, intsOf, strsOf, and_self, true_and, and_true, Nat.reduceMul, Nat.reducePow, Nat.reduceLeDiff, Int.reduceLT, Int.reduceLE, Int.reduceNeg, Int.reducePow, Int.reduceToNat, Int.reduceMul, Int.reduceAdd, Int.reduceSub, List.flatten_cons, List.flatten_nil, List.append_nil, line_nil, line_n, decide_true, decide_false, at_0]
  rw [show (T.and (.val (.cmp .Gt (.bi 0 (.cons false (.ali 3 2) .nil)) (.cst (.int 0)))) (.val (.cmp .Eq (.ix (.ali 3 2) (.cst (.int 0))) (.cst (.int 0))))) = popTest from rfl, e1]
  cases ys with
  | nil =>
    simp only [runs_nil, runs_cons, run_asg, run_asgT, run_par, run_aug, run_app, run_seti, run_expr, run_iff, run_whl, run_fr, run_ret, run_retN, run_pass, run_brk, run_cont, ev_var, ev_cst, ev_tup, ev_lst, ev_bin, ev_neg, ev_cmp, ev_cmp2, ev_and, ev_or, ev_not, ev_ife, ev_ix, ev_sl, ev_call, ev_bi, ev_isi, ev_mt1, ev_lc, ev_ali, ev_mkT, ev_callT, run_tape, run_mpar, evM_nil, evM_cons, thaw_d, thaw_fr, thaw_pl, asgs, run_gset, run_gpop, glL, putG, setG, fin_next, fin_ret, fin_exc, fin_any, seq_any, evs_nil, evs_cons, evL_nil, evL_cons, evG_nil, evG_cons, evT_yes, evT_not, evT_and, evT_or, evT_ife, evT_val, evO_no, evO_so, evI_ex, evI_rng1, evI_rng2, evI_zip, evI_enm, evI_rng3, zip_tup, zip_lst, tru_bl, tru_int, R.bind_ok, FR.of_ok, seq_next, seq_ret, seq_brk, seq_cont, seq_exc, seq_ite, of_some, of_none, get_d, get_fr, get_pl, cont_dat, cont_own, cont_bor, cont_lck, frz_d, frz_fr, asg_d, asg_fr, argF, argT, gets_nil, gets_cons, ags_nil, ags_cons, ag_d, lents_d, lents_pl, lents_nil, backs_nil, backs_d, backs_pl, backW, lock_d, lock_fr, lock_pl, setW, tgD, tgsD, normW, finA, List.getElem?_cons_zero, List.getElem?_cons_succ, List.set_cons_zero, List.set_cons_succ, Option.bind_some, Option.bind_none, Option.map_some, Option.map_none, List.map_cons, List.map_nil, List.replicate, List.cons_append, List.nil_append, Bool.and_true, Bool.and_self, if_true, if_false, Bool.false_eq_true, reduceCtorEq, List.length_cons, List.length_nil, Nat.reduceAdd, Nat.reduceSub, List.all_cons, List.all_nil, List.getD_cons_zero, List.getD_cons_succ, plainVs, backV, wipeW, biD, len_lst, len_tup, len_scr, tupleD, listD, allD, intD, absD, isiD, isiO_non, isiO_bl, isiO_int, isiO_str, isiO_tup, isiO_lst, isiO_scr, len_gl, x_gl, isN, b_add, b_sub, b_mulr, b_mull, b_fdiv, b_mod, b_pow, b_shl, b_shr, b_band, b_bor, b_bxor, b_addt, b_addl, b_repl, c_eqi, c_eqs, c_eqb, c_nei, c_nes, c_lt, c_le, c_gt, c_ge, c_is, c_isn, c_isb, c_isnb, isB, c_in, x_lst, x_tup, x_scr, it_lst, it_tup, it_scr, Bool.not_true, Bool.not_false, id_eq, blsOf, intsOf, strsOf, and_self, true_and, and_true, Nat.reduceMul, Nat.reducePow, Nat.reduceLeDiff, Int.reduceLT, Int.reduceLE, Int.reduceNeg, Int.reducePow, Int.reduceToNat, Int.reduceMul, Int.reduceAdd, Int.reduceSub, List.flatten_cons, List.flatten_nil, List.append_nil, line_nil, line_n, decide_true, decide_false, eq_self, ownL, putL, at2_1, ix2_1, h1, h2]
    exact ⟨_, _, _, rfl, ⟨[], _, rfl, rfl, q, by decide, Int.emod_nonneg _ (by decide), by have := Int.emod_lt_of_pos (s * 48271 + 12345) (show (0 : Int) < 2147483647 by decide); omega⟩, Int.emod_nonneg _ hm, Int.emod_lt_of_pos _ h1⟩
  | cons y ys =>
    have hy : 0 ≤ y := q y (List.mem_cons_self ..)
    have hl2 : ((0 : Int) < ((ys.length + 1 : Nat) : Int)) = True := eq_true (by omega)
    simp only [runs_nil, runs_cons, run_asg, run_asgT, run_par, run_aug, run_app, run_seti, run_expr, run_iff, run_whl, run_fr, run_ret, run_retN, run_pass, run_brk, run_cont, ev_var, ev_cst, ev_tup, ev_lst, ev_bin, ev_neg, ev_cmp, ev_cmp2, ev_and, ev_or, ev_not, ev_ife, ev_ix, ev_sl, ev_call, ev_bi, ev_isi, ev_mt1, ev_lc, ev_ali, ev_mkT, ev_callT, run_tape, run_mpar, evM_nil, evM_cons, thaw_d, thaw_fr, thaw_pl, asgs, run_gset, run_gpop, glL, putG, setG, fin_next, fin_ret, fin_exc, fin_any, seq_any, evs_nil, evs_cons, evL_nil, evL_cons, evG_nil, evG_cons, evT_yes, evT_not, evT_and, evT_or, evT_ife, evT_val, evO_no, evO_so, evI_ex, evI_rng1, evI_rng2, evI_zip, evI_enm, evI_rng3, zip_tup, zip_lst, tru_bl, tru_int, R.bind_ok, FR.of_ok, seq_next, seq_ret, seq_brk, seq_cont, seq_exc, seq_ite, of_some, of_none, get_d, get_fr, get_pl, cont_dat, cont_own, cont_bor, cont_lck, frz_d, frz_fr, asg_d, asg_fr, argF, argT, gets_nil, gets_cons, ags_nil, ags_cons, ag_d, lents_d, lents_pl, lents_nil, backs_nil, backs_d, backs_pl, backW, lock_d, lock_fr, lock_pl, setW, tgD, tgsD, normW, finA, List.getElem?_cons_zero, List.getElem?_cons_succ, List.set_cons_zero, List.set_cons_succ, Option.bind_some, Option.bind_none, Option.map_some, Option.map_none, List.map_cons, List.map_nil, List.replicate, List.cons_append, List.nil_append, Bool.and_true, Bool.and_self, if_true, if_false, Bool.false_eq_true, reduceCtorEq, List.length_cons, List.length_nil, Nat.reduceAdd, Nat.reduceSub, List.all_cons, List.all_nil, List.getD_cons_zero, List.getD_cons_succ, plainVs, backV, wipeW, biD, len_lst, len_tup, len_scr, tupleD, listD, allD, intD, absD, isiD, isiO_non, isiO_bl, isiO_int, isiO_str, isiO_tup, isiO_lst, isiO_scr, len_gl, x_gl, isN, b_add, b_sub, b_mulr, b_mull, b_fdiv, b_mod, b_pow, b_shl, b_shr, b_band, b_bor, b_bxor, b_addt, b_addl, b_repl, c_eqi, c_eqs, c_eqb, c_nei, c_nes, c_lt, c_le, c_gt, c_ge, c_is, c_isn, c_isb, c_isnb, isB, c_in, x_lst, x_tup, x_scr, it_lst, it_tup, it_scr, Bool.not_true, Bool.not_false, id_eq, blsOf, intsOf, strsOf, and_self, true_and, and_true, Nat.reduceMul, Nat.reducePow, Nat.reduceLeDiff, Int.reduceLT, Int.reduceLE, Int.reduceNeg, Int.reducePow, Int.reduceToNat, Int.reduceMul, Int.reduceAdd, Int.reduceSub, List.flatten_cons, List.flatten_nil, List.append_nil, line_nil, line_n, decide_true, decide_false, eq_self, at_0, ix_0, hl2, List.length_map, h1, h2]
    refine ⟨_, _, _, rfl, ⟨(y / many) :: ys, s, rfl, rfl, fun x hx => ?_, by rw [List.length_cons] at l ⊢; omega, hs0, hs1⟩, Int.emod_nonneg _ hm, Int.emod_lt_of_pos _ h1⟩
    rcases List.mem_cons.mp hx with z | z
    · rw [z]; exact Int.ediv_nonneg hy (by omega)
    · exact q x (List.mem_cons_of_mem _ z)

def seedF (s : Int) (x : D) : Int := match x with
  | .int c => (s * 31 + c) % 1000003
  | _ => s
def absV (x : D) : D := match x with
  | .int i => .int (if i < 0 then -i else i)
  | x => x
theorem seed_in : ∀ (ns : List Int) (s : Int), 0 ≤ s → s < 1000003 → 0 ≤ (ns.map D.int).foldl seedF s ∧ (ns.map D.int).foldl seedF s < 1000003
  | [], s, h0, h1 => ⟨h0, h1⟩
  | n :: ns, s, h0, h1 => seed_in ns ((s * 31 + n) % 1000003) (Int.emod_nonneg _ (by decide)) (Int.emod_lt_of_pos _ (by decide))
def tapeCode : Ss := (.cons (.asg (.name 1) (.cst (.int 7))) (.cons (.fr (.name 2) (.ex (.var 0)) (.cons (.asg (.name 1) (.bin .Mod (.bi 6 (.cons false (.bin .Add (.bin .Mult (.var 1) (.cst (.int 31))) (.var 2)) .nil)) (.cst (.int 1000003)))) .nil)) (.cons (.ret (.mkT (.lc (.bi 7 (.cons false (.bi 6 (.cons false (.var 2) .nil)) .nil)) (.name 2) (.ex (.var 0)) .yes [2]) (.bin .Add (.var 1) (.cst (.int 1))))) .nil)))
theorem tape_ok {P : Nat → Option Fn} {f : Nat} (hP : P f = some ⟨1, 3, tapeCode⟩) (k : Nat) (ns : List Int) (hn : ns.length ≤ 63) : ∃ ds s, callK P (k + 1) f [.dat (.scr (ns.map D.int))] = .ok (.ft ds (.int s)) [.dat (.scr (ns.map D.int))] ∧ ∀ b, Tp b (.lst [.adr b, .int s]) (.gl b ds) := by
  obtain ⟨w, hw, e⟩ := forGo_fold (t := .name 2) (b := runs (callK P k) (.cons (.asg (.name 1) (.bin .Mod (.bi 6 (.cons false (.bin .Add (.bin .Mult (.var 1) (.cst (.int 31))) (.var 2)) .nil)) (.cst (.int 1000003)))) .nil))
    (fun s w => [.dat (.scr (ns.map D.int)), .dat (.int s), w]) seedF (xs := ns.map D.int) (s := 7) (w := .un) .un
    (fun s x w _ hw => by rcases hw with rfl | ⟨d, rfl⟩ <;> rfl)
    (fun s x hx => by
      obtain ⟨c, _, rfl⟩ := List.mem_map.mp hx
      simp only [runs_nil, runs_cons, run_asg, run_asgT, run_par, run_aug, run_app, run_seti, run_expr, run_iff, run_whl, run_fr, run_ret, run_retN, run_pass, run_brk, run_cont, ev_var, ev_cst, ev_tup, ev_lst, ev_bin, ev_neg, ev_cmp, ev_cmp2, ev_and, ev_or, ev_not, ev_ife, ev_ix, ev_sl, ev_call, ev_bi, ev_isi, ev_mt1, ev_lc, ev_ali, ev_mkT, ev_callT, run_tape, run_mpar, evM_nil, evM_cons, thaw_d, thaw_fr, thaw_pl, asgs, run_gset, run_gpop, glL, putG, setG, fin_next, fin_ret, fin_exc, fin_any, seq_any, evs_nil, evs_cons, evL_nil, evL_cons, evG_nil, evG_cons, evT_yes, evT_not, evT_and, evT_or, evT_ife, evT_val, evO_no, evO_so, evI_ex, evI_rng1, evI_rng2, evI_zip, evI_enm, evI_rng3, zip_tup, zip_lst, tru_bl, tru_int, R.bind_ok, FR.of_ok, seq_next, seq_ret, seq_brk, seq_cont, seq_exc, seq_ite, of_some, of_none, get_d, get_fr, get_pl, cont_dat, cont_own, cont_bor, cont_lck, frz_d, frz_fr, asg_d, asg_fr, argF, argT, gets_nil, gets_cons, ags_nil, ags_cons, ag_d, lents_d, lents_pl, lents_nil, backs_nil, backs_d, backs_pl, backW, lock_d, lock_fr, lock_pl, setW, tgD, tgsD, normW, finA, List.getElem?_cons_zero, List.getElem?_cons_succ, List.set_cons_zero, List.set_cons_succ, Option.bind_some, Option.bind_none, Option.map_some, Option.map_none, List.map_cons, List.map_nil, List.replicate, List.cons_append, List.nil_append, Bool.and_true, Bool.and_self, if_true, if_false, Bool.false_eq_true, reduceCtorEq, List.length_cons, List.length_nil, Nat.reduceAdd, Nat.reduceSub, List.all_cons, List.all_nil, List.getD_cons_zero, List.getD_cons_succ, plainVs, backV, wipeW, biD, len_lst, len_tup, len_scr, tupleD, listD, allD, intD, absD, isiD, isiO_non, isiO_bl, isiO_int, isiO_str, isiO_tup, isiO_lst, isiO_scr, len_gl, x_gl, isN, b_add, b_sub, b_mulr, b_mull, b_fdiv, b_mod, b_pow, b_shl, b_shr, b_band, b_bor, b_bxor, b_addt, b_addl, b_repl, c_eqi, c_eqs, c_eqb, c_nei, c_nes, c_lt, c_le, c_gt, c_ge, c_is, c_isn, c_isb, c_isnb, isB, c_in, x_lst, x_tup, x_scr, it_lst, it_tup, it_scr, Bool.not_true, Bool.not_false, id_eq, blsOf, intsOf, strsOf, and_self, true_and, and_true, Nat.reduceMul, Nat.reducePow, Nat.reduceLeDiff, Int.reduceLT, Int.reduceLE, Int.reduceNeg, Int.reducePow, Int.reduceToNat, Int.reduceMul, Int.reduceAdd, Int.reduceSub, List.flatten_cons, List.flatten_nil, List.append_nil, line_nil, line_n, decide_true, decide_false, seedF])
  obtain ⟨s0, s1⟩ := seed_in ns 7 (by decide) (by decide)
  generalize (ns.map D.int).foldl seedF 7 = s at e s0 s1
  refine ⟨(ns.map D.int).map absV, s + 1, ?_, fun b => ⟨ns.map fun i => if i < 0 then -i else i, s + 1, rfl, ?_, fun x hx => ?_, by rw [List.length_map]; omega, by omega, by omega⟩⟩
  · rw [callK_run hP]
    unfold runF tapeCode
    rw [if_pos ⟨rfl, rfl⟩]
    simp only [runs_nil, runs_cons, run_asg, run_asgT, run_par, run_aug, run_app, run_seti, run_expr, run_iff, run_whl, run_fr, run_ret, run_retN, run_pass, run_brk, run_cont, ev_var, ev_cst, ev_tup, ev_lst, ev_bin, ev_neg, ev_cmp, ev_cmp2, ev_and, ev_or, ev_not, ev_ife, ev_ix, ev_sl, ev_call, ev_bi, ev_isi, ev_mt1, ev_lc, ev_ali, ev_mkT, ev_callT, run_tape, run_mpar, evM_nil, evM_cons, thaw_d, thaw_fr, thaw_pl, asgs, run_gset, run_gpop, glL, putG, setG, fin_next, fin_ret, fin_exc, fin_any, seq_any, evs_nil, evs_cons, evL_nil, evL_cons, evG_nil, evG_cons, evT_yes, evT_not, evT_and, evT_or, evT_ife, evT_val, evO_no, evO_so, evI_ex, evI_rng1, evI_rng2, evI_zip, evI_enm, evI_rng3, zip_tup, zip_lst, tru_bl, tru_int, R.bind_ok, FR.of_ok, seq_next, seq_ret, seq_brk, seq_cont, seq_exc, seq_ite, of_some, of_none, get_d, get_fr, get_pl, cont_dat, cont_own, cont_bor, cont_lck, frz_d, frz_fr, asg_d, asg_fr, argF, argT, gets_nil, gets_cons, ags_nil, ags_cons, ag_d, lents_d, lents_pl, lents_nil, backs_nil, backs_d, backs_pl, backW, lock_d, lock_fr, lock_pl, setW, tgD, tgsD, normW, finA, List.getElem?_cons_zero, List.getElem?_cons_succ, List.set_cons_zero, List.set_cons_succ, Option.bind_some, Option.bind_none, Option.map_some, Option.map_none, List.map_cons, List.map_nil, List.replicate, List.cons_append, List.nil_append, Bool.and_true, Bool.and_self, if_true, if_false, Bool.false_eq_true, reduceCtorEq, List.length_cons, List.length_nil, Nat.reduceAdd, Nat.reduceSub, List.all_cons, List.all_nil, List.getD_cons_zero, List.getD_cons_succ, plainVs, backV, wipeW, biD, len_lst, len_tup, len_scr, tupleD, listD, allD, intD, absD, isiD, isiO_non, isiO_bl, isiO_int, isiO_str, isiO_tup, isiO_lst, isiO_scr, len_gl, x_gl, isN, b_add, b_sub, b_mulr, b_mull, b_fdiv, b_mod, b_pow, b_shl, b_shr, b_band, b_bor, b_bxor, b_addt, b_addl, b_repl, c_eqi, c_eqs, c_eqb, c_nei, c_nes, c_lt, c_le, c_gt, c_ge, c_is, c_isn, c_isb, c_isnb, isB, c_in, x_lst, x_tup, x_scr, it_lst, it_tup, it_scr, Bool.not_true, Bool.not_false, id_eq, blsOf, intsOf, strsOf, and_self, true_and, and_true, Nat.reduceMul, Nat.reducePow, Nat.reduceLeDiff, Int.reduceLT, Int.reduceLE, Int.reduceNeg, Int.reducePow, Int.reduceToNat, Int.reduceMul, Int.reduceAdd, Int.reduceSub, List.flatten_cons, List.flatten_nil, List.append_nil, line_nil, line_n, decide_true, decide_false]
    rw [frRun_next e]
    simp only [runs_nil, runs_cons, run_asg, run_asgT, run_par, run_aug, run_app, run_seti, run_expr, run_iff, run_whl, run_fr, run_ret, run_retN, run_pass, run_brk, run_cont, ev_var, ev_cst, ev_tup, ev_lst, ev_bin, ev_neg, ev_cmp, ev_cmp2, ev_and, ev_or, ev_not, ev_ife, ev_ix, ev_sl, ev_call, ev_bi, ev_isi, ev_mt1, ev_lc, ev_ali, ev_mkT, ev_callT, run_tape, run_mpar, evM_nil, evM_cons, thaw_d, thaw_fr, thaw_pl, asgs, run_gset, run_gpop, glL, putG, setG, fin_next, fin_ret, fin_exc, fin_any, seq_any, evs_nil, evs_cons, evL_nil, evL_cons, evG_nil, evG_cons, evT_yes, evT_not, evT_and, evT_or, evT_ife, evT_val, evO_no, evO_so, evI_ex, evI_rng1, evI_rng2, evI_zip, evI_enm, evI_rng3, zip_tup, zip_lst, tru_bl, tru_int, R.bind_ok, FR.of_ok, seq_next, seq_ret, seq_brk, seq_cont, seq_exc, seq_ite, of_some, of_none, get_d, get_fr, get_pl, cont_dat, cont_own, cont_bor, cont_lck, frz_d, frz_fr, asg_d, asg_fr, argF, argT, gets_nil, gets_cons, ags_nil, ags_cons, ag_d, lents_d, lents_pl, lents_nil, backs_nil, backs_d, backs_pl, backW, lock_d, lock_fr, lock_pl, setW, tgD, tgsD, normW, finA, List.getElem?_cons_zero, List.getElem?_cons_succ, List.set_cons_zero, List.set_cons_succ, Option.bind_some, Option.bind_none, Option.map_some, Option.map_none, List.map_cons, List.map_nil, List.replicate, List.cons_append, List.nil_append, Bool.and_true, Bool.and_self, if_true, if_false, Bool.false_eq_true, reduceCtorEq, List.length_cons, List.length_nil, Nat.reduceAdd, Nat.reduceSub, List.all_cons, List.all_nil, List.getD_cons_zero, List.getD_cons_succ, plainVs, backV, wipeW, biD, len_lst, len_tup, len_scr, tupleD, listD, allD, intD, absD, isiD, isiO_non, isiO_bl, isiO_int, isiO_str, isiO_tup, isiO_lst, isiO_scr, len_gl, x_gl, isN, b_add, b_sub, b_mulr, b_mull, b_fdiv, b_mod, b_pow, b_shl, b_shr, b_band, b_bor, b_bxor, b_addt, b_addl, b_repl, c_eqi, c_eqs, c_eqb, c_nei, c_nes, c_lt, c_le, c_gt, c_ge, c_is, c_isn, c_isb, c_isnb, isB, c_in, x_lst, x_tup, x_scr, it_lst, it_tup, it_scr, Bool.not_true, Bool.not_false, id_eq, blsOf, intsOf, strsOf, and_self, true_and, and_true, Nat.reduceMul, Nat.reducePow, Nat.reduceLeDiff, Int.reduceLT, Int.reduceLE, Int.reduceNeg, Int.reducePow, Int.reduceToNat, Int.reduceMul, Int.reduceAdd, Int.reduceSub, List.flatten_cons, List.flatten_nil, List.append_nil, line_nil, line_n, decide_true, decide_false]
    have pv : plainVs [.dat (.scr (ns.map D.int)), .dat (.int s), w] [2] = true := by rcases hw with rfl | ⟨d, rfl⟩ <;> rfl
    rw [lcRun_ok pv (lcGo_all absV (fun x hx => by
      obtain ⟨c, _, rfl⟩ := List.mem_map.mp hx
      simp only [runs_nil, runs_cons, run_asg, run_asgT, run_par, run_aug, run_app, run_seti, run_expr, run_iff, run_whl, run_fr, run_ret, run_retN, run_pass, run_brk, run_cont, ev_var, ev_cst, ev_tup, ev_lst, ev_bin, ev_neg, ev_cmp, ev_cmp2, ev_and, ev_or, ev_not, ev_ife, ev_ix, ev_sl, ev_call, ev_bi, ev_isi, ev_mt1, ev_lc, ev_ali, ev_mkT, ev_callT, run_tape, run_mpar, evM_nil, evM_cons, thaw_d, thaw_fr, thaw_pl, asgs, run_gset, run_gpop, glL, putG, setG, fin_next, fin_ret, fin_exc, fin_any, seq_any, evs_nil, evs_cons, evL_nil, evL_cons, evG_nil, evG_cons, evT_yes, evT_not, evT_and, evT_or, evT_ife, evT_val, evO_no, evO_so, evI_ex, evI_rng1, evI_rng2, evI_zip, evI_enm, evI_rng3, zip_tup, zip_lst, tru_bl, tru_int, R.bind_ok, FR.of_ok, seq_next, seq_ret, seq_brk, seq_cont, seq_exc, seq_ite, of_some, of_none, get_d, get_fr, get_pl, cont_dat, cont_own, cont_bor, cont_lck, frz_d, frz_fr, asg_d, asg_fr, argF, argT, gets_nil, gets_cons, ags_nil, ags_cons, ag_d, lents_d, lents_pl, lents_nil, backs_nil, backs_d, backs_pl, backW, lock_d, lock_fr, lock_pl, setW, tgD, tgsD, normW, finA, List.getElem?_cons_zero, List.getElem?_cons_succ, List.set_cons_zero, List.set_cons_succ, Option.bind_some, Option.bind_none, Option.map_some, Option.map_none, List.map_cons, List.map_nil, List.replicate, List.cons_append, List.nil_append, Bool.and_true, Bool.and_self, if_true, if_false, Bool.false_eq_true, reduceCtorEq, List.length_cons, List.length_nil, Nat.reduceAdd, Nat.reduceSub, List.all_cons, List.all_nil, List.getD_cons_zero, List.getD_cons_succ, plainVs, backV, wipeW, biD, len_lst, len_tup, len_scr, tupleD, listD, allD, intD, absD, isiD, isiO_non, isiO_bl, isiO_int, isiO_str, isiO_tup, isiO_lst, isiO_scr, len_gl, x_gl, isN, b_add, b_sub, b_mulr, b_mull, b_fdiv, b_mod, b_pow, b_shl, b_shr, b_band, b_bor, b_bxor, b_addt, b_addl, b_repl, c_eqi, c_eqs, c_eqb, c_nei, c_nes, c_lt, c_le, c_gt, c_ge, c_is, c_isn, c_isb, c_isnb, isB, c_in, x_lst, x_tup, x_scr, it_lst, it_tup, it_scr, Bool.not_true, Bool.not_false, id_eq, blsOf, intsOf, strsOf, and_self, true_and, and_true, Nat.reduceMul, Nat.reducePow, Nat.reduceLeDiff, Int.reduceLT, Int.reduceLE, Int.reduceNeg, Int.reducePow, Int.reduceToNat, Int.reduceMul, Int.reduceAdd, Int.reduceSub, List.flatten_cons, List.flatten_nil, List.append_nil, line_nil, line_n, decide_true, decide_false, absV]) (fun _ => rfl) (fun _ => rfl) (by rw [List.length_map]; exact Nat.le_trans hn (by decide)))]
    simp only [runs_nil, runs_cons, run_asg, run_asgT, run_par, run_aug, run_app, run_seti, run_expr, run_iff, run_whl, run_fr, run_ret, run_retN, run_pass, run_brk, run_cont, ev_var, ev_cst, ev_tup, ev_lst, ev_bin, ev_neg, ev_cmp, ev_cmp2, ev_and, ev_or, ev_not, ev_ife, ev_ix, ev_sl, ev_call, ev_bi, ev_isi, ev_mt1, ev_lc, ev_ali, ev_mkT, ev_callT, run_tape, run_mpar, evM_nil, evM_cons, thaw_d, thaw_fr, thaw_pl, asgs, run_gset, run_gpop, glL, putG, setG, fin_next, fin_ret, fin_exc, fin_any, seq_any, evs_nil, evs_cons, evL_nil, evL_cons, evG_nil, evG_cons, evT_yes, evT_not, evT_and, evT_or, evT_ife, evT_val, evO_no, evO_so, evI_ex, evI_rng1, evI_rng2, evI_zip, evI_enm, evI_rng3, zip_tup, zip_lst, tru_bl, tru_int, R.bind_ok, FR.of_ok, seq_next, seq_ret, seq_brk, seq_cont, seq_exc, seq_ite, of_some, of_none, get_d, get_fr, get_pl, cont_dat, cont_own, cont_bor, cont_lck, frz_d, frz_fr, asg_d, asg_fr, argF, argT, gets_nil, gets_cons, ags_nil, ags_cons, ag_d, lents_d, lents_pl, lents_nil, backs_nil, backs_d, backs_pl, backW, lock_d, lock_fr, lock_pl, setW, tgD, tgsD, normW, finA, List.getElem?_cons_zero, List.getElem?_cons_succ, List.set_cons_zero, List.set_cons_succ, Option.bind_some, Option.bind_none, Option.map_some, Option.map_none, List.map_cons, List.map_nil, List.replicate, List.cons_append, List.nil_append, Bool.and_true, Bool.and_self, if_true, if_false, Bool.false_eq_true, reduceCtorEq, List.length_cons, List.length_nil, Nat.reduceAdd, Nat.reduceSub, List.all_cons, List.all_nil, List.getD_cons_zero, List.getD_cons_succ, plainVs, backV, wipeW, biD, len_lst, len_tup, len_scr, tupleD, listD, allD, intD, absD, isiD, isiO_non, isiO_bl, isiO_int, isiO_str, isiO_tup, isiO_lst, isiO_scr, len_gl, x_gl, isN, b_add, b_sub, b_mulr, b_mull, b_fdiv, b_mod, b_pow, b_shl, b_shr, b_band, b_bor, b_bxor, b_addt, b_addl, b_repl, c_eqi, c_eqs, c_eqb, c_nei, c_nes, c_lt, c_le, c_gt, c_ge, c_is, c_isn, c_isb, c_isnb, isB, c_in, x_lst, x_tup, x_scr, it_lst, it_tup, it_scr, Bool.not_true, Bool.not_false, id_eq, blsOf, intsOf, strsOf, and_self, true_and, and_true, Nat.reduceMul, Nat.reducePow, Nat.reduceLeDiff, Int.reduceLT, Int.reduceLE, Int.reduceNeg, Int.reducePow, Int.reduceToNat, Int.reduceMul, Int.reduceAdd, Int.reduceSub, List.flatten_cons, List.flatten_nil, List.append_nil, line_nil, line_n, decide_true, decide_false]
  · rw [List.map_map, List.map_map]; rfl
  · obtain ⟨i, _, rfl⟩ := List.mem_map.mp hx
    split <;> omega

theorem callG_tb {φ : Phi} {f i g : Nat} {x d d' e e' : D} {a : A} {z : Pv.W} {ρ : Pv.Env} (hne : i ≠ g) (h : φ f [.bor d, .dat x, .bor e] = .ok a [.bor d', z, .bor e']) (hi : ρ[i]? = some (.bor d)) (hg : ρ[g]? = some (.bor e)) : callG φ f [.pl i, .d x, .pl g] ρ = .ok a ((ρ.set i (.bor d')).set g (.bor e')) := by
  unfold callG
  rw [if_pos (by simp [lents, hne])]
  have e2 : (ρ.set i (.bor d'))[g]? = some (.bor e) := by rw [List.getElem?_set_ne hne]; exact hg
  simp only [ags_cons, ag_d, ags_nil, agW, hi, hg, Option.bind_some, Option.map_some, h, backs_pl, backW, backs_d, backs_nil, of_some, R.bind_ok, e2]
theorem callG_to {φ : Phi} {f i g : Nat} {x d d' e e' : D} {a : A} {z : Pv.W} {ρ : Pv.Env} (hne : i ≠ g) (h : φ f [.bor d, .dat x, .bor e] = .ok a [.bor d', z, .bor e']) (hi : ρ[i]? = some (.own d)) (hg : ρ[g]? = some (.own e)) : callG φ f [.pl i, .d x, .pl g] ρ = .ok a ((ρ.set i (.own d')).set g (.own e')) := by
  unfold callG
  rw [if_pos (by simp [lents, hne])]
  have e2 : (ρ.set i (.own d'))[g]? = some (.own e) := by rw [List.getElem?_set_ne hne]; exact hg
  simp only [ags_cons, ag_d, ags_nil, agW, hi, hg, Option.bind_some, Option.map_some, h, backs_pl, backW, backs_d, backs_nil, of_some, R.bind_ok, e2]
def pickTCode (g : Nat) : Ss := (.cons (.ret (.ix (.var 1) (.callT g (.cons true (.var 0) (.cons false (.bi 0 (.cons false (.var 1) .nil)) .nil)) 2))) .nil)
theorem pickT_ok {P : Nat → Option Fn} {f g : Nat} (hP : P f = some ⟨3, 3, pickTCode g⟩) (hD : P g = some ⟨3, 5, drawCode⟩) (k : Nat) {b : Nat} {d e : D} (t : Tp b d e) {row : List D} (h0 : 0 < row.length) (h1 : row.length ≤ 1000) : ∃ x d' e', callK P (k + 2) f [.bor d, .dat (.lst row), .bor e] = .ok (.d x) [.bor d', .dat (.lst row), .bor e'] ∧ Tp b d' e' ∧ x ∈ row := by
  obtain ⟨v, d', e', e1, t', v0, v1⟩ := draw_ok hD k (many := (row.length : Int)) t (by omega) (by omega)
  have hv : v.toNat < row.length := by omega
  have e2 : L2.atI row v = some row[v.toNat] := by rw [at_nat v0 v1, List.getElem?_eq_getElem hv]
  refine ⟨row[v.toNat], d', e', ?_, t', List.getElem_mem hv⟩
  rw [callK_run hP]
  unfold runF pickTCode
  rw [if_pos ⟨rfl, rfl⟩]
  simp only [runs_nil, runs_cons, run_asg, run_asgT, run_par, run_aug, run_app, run_seti, run_expr, run_iff, run_whl, run_fr, run_ret, run_retN, run_pass, run_brk, run_cont, ev_var, ev_cst, ev_tup, ev_lst, ev_bin, ev_neg, ev_cmp, ev_cmp2, ev_and, ev_or, ev_not, ev_ife, ev_ix, ev_sl, ev_call, ev_bi, ev_isi, ev_mt1, ev_lc, ev_ali, ev_mkT, ev_callT, run_tape, run_mpar, evM_nil, evM_cons, thaw_d, thaw_fr, thaw_pl, asgs, run_gset, run_gpop, glL, putG, setG, fin_next, fin_ret, fin_exc, fin_any, seq_any, evs_nil, evs_cons, evL_nil, evL_cons, evG_nil, evG_cons, evT_yes, evT_not, evT_and, evT_or, evT_ife, evT_val, evO_no, evO_so, evI_ex, evI_rng1, evI_rng2, evI_zip, evI_enm, evI_rng3, zip_tup, zip_lst, tru_bl, tru_int, R.bind_ok, FR.of_ok, seq_next, seq_ret, seq_brk, seq_cont, seq_exc, seq_ite, of_some, of_none, get_d, get_fr, get_pl, cont_dat, cont_own, cont_bor, cont_lck, frz_d, frz_fr, asg_d, asg_fr, argF, argT, gets_nil, gets_cons, ags_nil, ags_cons, ag_d, lents_d, lents_pl, lents_nil, backs_nil, backs_d, backs_pl, backW, lock_d, lock_fr, lock_pl, setW, tgD, tgsD, normW, finA, List.getElem?_cons_zero, List.getElem?_cons_succ, List.set_cons_zero, List.set_cons_succ, Option.bind_some, Option.bind_none, Option.map_some, Option.map_none, List.map_cons, List.map_nil, List.replicate, List.cons_append, List.nil_append, Bool.and_true, Bool.and_self, if_true, if_false, Bool.false_eq_true, reduceCtorEq, List.length_cons, List.length_nil, Nat.reduceAdd, Nat.reduceSub, List.all_cons, List.all_nil, List.getD_cons_zero, List.getD_cons_succ, plainVs, backV, wipeW, biD, len_lst, len_tup, len_scr, tupleD, listD, allD, intD, absD, isiD, isiO_non, isiO_bl, isiO_int, isiO_str, isiO_tup, isiO_lst, isiO_scr, len_gl, x_gl, isN, b_add, b_sub, b_mulr, b_mull, b_fdiv, b_mod, b_pow, b_shl, b_shr, b_band, b_bor, b_bxor, b_addt, b_addl, b_repl, c_eqi, c_eqs, c_eqb, c_nei, c_nes, c_lt, c_le, c_gt, c_ge, c_is, c_isn, c_isb, c_isnb, isB, c_in, x_lst, x_tup, x_scr, it_lst, it_tup, it_scr, Bool.not_true, Bool.not_false, id_eq, blsOf, intsOf, strsOf, and_self, true_and, and_true, Nat.reduceMul, Nat.reducePow, Nat.reduceLeDiff, Int.reduceLT, Int.reduceLE, Int.reduceNeg, Int.reducePow, Int.reduceToNat, Int.reduceMul, Int.reduceAdd, Int.reduceSub, List.flatten_cons, List.flatten_nil, List.append_nil, line_nil, line_n, decide_true, decide_false, callG_tb (i := 0) (g := 2) (by decide) e1, e2]

theorem callG_3 {φ : Phi} {f : Nat} {x y z : D} {a : A} {u v w : Pv.W} (h : φ f [.dat x, .dat y, .dat z] = .ok a [u, v, w]) (ρ : Pv.Env) : callG φ f [.d x, .d y, .d z] ρ = .ok a ρ := by
  unfold callG
  rw [if_pos (by simp [lents])]
  simp only [ags_cons, ag_d, ags_nil, Option.bind_some, Option.map_some, h, backs_d, backs_nil, of_some, R.bind_ok]
theorem callG_0 {φ : Phi} {f : Nat} {a : A} (h : φ f [] = .ok a []) (ρ : Pv.Env) : callG φ f [] ρ = .ok a ρ := by
  unfold callG
  rw [if_pos (by simp [lents])]
  simp only [ags_nil, h, backs_nil, of_some, R.bind_ok]

theorem rng_nil {a b : Int} (h : b ≤ a) : rngD a b = [] := by
  unfold rngD
  rw [show (b - a).toNat = 0 by omega]; rfl
theorem rng_cons {a b : Int} (h : a < b) : rngD a b = .int a :: rngD (a + 1) b := by
  unfold rngD
  rw [show (b - a).toNat = (b - (a + 1)).toNat + 1 by omega, List.range_succ_eq_map, List.map_cons, List.map_map]
  refine List.cons_eq_cons.mpr ⟨by simp, List.map_congr_left fun x _ => ?_⟩
  show D.int (a + ((x + 1 : Nat) : Int)) = D.int (a + 1 + (x : Int))
  congr 1
  omega

theorem asgX {φ : Phi} {ρ ρ' : Pv.Env} {i : Nat} {e : E} {x : D} {w : Pv.W} (h : ev φ e ρ = .ok (.d x) ρ') (hi : ρ'[i]? = some w) (hw : Dull w) : run φ (.asg (.name i) e) ρ = .next (ρ'.set i (.dat x)) := by
  rw [run_asg, h]
  rcases hw with rfl | ⟨d, rfl⟩ <;> simp only [runs_nil, runs_cons, run_asg, run_asgT, run_par, run_aug, run_app, run_seti, run_expr, run_iff, run_whl, run_fr, run_ret, run_retN, run_pass, run_brk, run_cont, ev_var, ev_cst, ev_tup, ev_lst, ev_bin, ev_neg, ev_cmp, ev_cmp2, ev_and, ev_or, ev_not, ev_ife, ev_ix, ev_sl, ev_call, ev_bi, ev_isi, ev_mt1, ev_lc, ev_ali, ev_mkT, ev_callT, run_tape, run_mpar, evM_nil, evM_cons, thaw_d, thaw_fr, thaw_pl, asgs, run_gset, run_gpop, glL, putG, setG, fin_next, fin_ret, fin_exc, fin_any, seq_any, evs_nil, evs_cons, evL_nil, evL_cons, evG_nil, evG_cons, evT_yes, evT_not, evT_and, evT_or, evT_ife, evT_val, evO_no, evO_so, evI_ex, evI_rng1, evI_rng2, evI_zip, evI_enm, evI_rng3, zip_tup, zip_lst, tru_bl, tru_int, R.bind_ok, FR.of_ok, seq_next, seq_ret, seq_brk, seq_cont, seq_exc, seq_ite, of_some, of_none, get_d, get_fr, get_pl, cont_dat, cont_own, cont_bor, cont_lck, frz_d, frz_fr, asg_d, asg_fr, argF, argT, gets_nil, gets_cons, ags_nil, ags_cons, ag_d, lents_d, lents_pl, lents_nil, backs_nil, backs_d, backs_pl, backW, lock_d, lock_fr, lock_pl, setW, tgD, tgsD, normW, finA, List.getElem?_cons_zero, List.getElem?_cons_succ, List.set_cons_zero, List.set_cons_succ, Option.bind_some, Option.bind_none, Option.map_some, Option.map_none, List.map_cons, List.map_nil, List.replicate, List.cons_append, List.nil_append, Bool.and_true, Bool.and_self, if_true, if_false, Bool.false_eq_true, reduceCtorEq, List.length_cons, List.length_nil, Nat.reduceAdd, Nat.reduceSub, List.all_cons, List.all_nil, List.getD_cons_zero, List.getD_cons_succ, plainVs, backV, wipeW, biD, len_lst, len_tup, len_scr, tupleD, listD, allD, intD, absD, isiD, isiO_non, isiO_bl, isiO_int, isiO_str, isiO_tup, isiO_lst, isiO_scr, len_gl, x_gl, isN, b_add, b_sub, b_mulr, b_mull, b_fdiv, b_mod, b_pow, b_shl, b_shr, b_band, b_bor, b_bxor, b_addt, b_addl, b_repl, c_eqi, c_eqs, c_eqb, c_nei, c_nes, c_lt, c_le, c_gt, c_ge, c_is, c_isn, c_isb, c_isnb, isB, c_in, x_lst, x_tup, x_scr, it_lst, it_tup, it_scr, Bool.not_true, Bool.not_false, id_eq, blsOf, intsOf, strsOf, and_self, true_and, and_true, Nat.reduceMul, Nat.reducePow, Nat.reduceLeDiff, Int.reduceLT, Int.reduceLE, Int.reduceNeg, Int.reducePow, Int.reduceToNat, Int.reduceMul, Int.reduceAdd, Int.reduceSub, List.flatten_cons, List.flatten_nil, List.append_nil, line_nil, line_n, decide_true, decide_false, hi]
theorem parX {φ : Phi} {ρ ρ1 ρ2 : Pv.Env} {i j : Nat} {a b : E} {x y : D} {w u : Pv.W} (hij : i ≠ j) (h1 : ev φ a ρ = .ok (.d x) ρ1) (h2 : ev φ b ρ1 = .ok (.d y) ρ2) (hi : ρ2[i]? = some w) (hj : ρ2[j]? = some u) (hw : Dull w) (hu : Dull u) : run φ (.par i j a b) ρ = .next ((ρ2.set i (.dat x)).set j (.dat y)) := by
  have e2 : (ρ2.set i (.dat x))[j]? = some u := by rw [List.getElem?_set_ne hij]; exact hj
  rw [run_par, h1]
  simp only [FR.of_ok, frz_d, h2]
  rcases hw with rfl | ⟨d, rfl⟩ <;> rcases hu with rfl | ⟨d', rfl⟩ <;> simp only [runs_nil, runs_cons, run_asg, run_asgT, run_par, run_aug, run_app, run_seti, run_expr, run_iff, run_whl, run_fr, run_ret, run_retN, run_pass, run_brk, run_cont, ev_var, ev_cst, ev_tup, ev_lst, ev_bin, ev_neg, ev_cmp, ev_cmp2, ev_and, ev_or, ev_not, ev_ife, ev_ix, ev_sl, ev_call, ev_bi, ev_isi, ev_mt1, ev_lc, ev_ali, ev_mkT, ev_callT, run_tape, run_mpar, evM_nil, evM_cons, thaw_d, thaw_fr, thaw_pl, asgs, run_gset, run_gpop, glL, putG, setG, fin_next, fin_ret, fin_exc, fin_any, seq_any, evs_nil, evs_cons, evL_nil, evL_cons, evG_nil, evG_cons, evT_yes, evT_not, evT_and, evT_or, evT_ife, evT_val, evO_no, evO_so, evI_ex, evI_rng1, evI_rng2, evI_zip, evI_enm, evI_rng3, zip_tup, zip_lst, tru_bl, tru_int, R.bind_ok, FR.of_ok, seq_next, seq_ret, seq_brk, seq_cont, seq_exc, seq_ite, of_some, of_none, get_d, get_fr, get_pl, cont_dat, cont_own, cont_bor, cont_lck, frz_d, frz_fr, asg_d, asg_fr, argF, argT, gets_nil, gets_cons, ags_nil, ags_cons, ag_d, lents_d, lents_pl, lents_nil, backs_nil, backs_d, backs_pl, backW, lock_d, lock_fr, lock_pl, setW, tgD, tgsD, normW, finA, List.getElem?_cons_zero, List.getElem?_cons_succ, List.set_cons_zero, List.set_cons_succ, Option.bind_some, Option.bind_none, Option.map_some, Option.map_none, List.map_cons, List.map_nil, List.replicate, List.cons_append, List.nil_append, Bool.and_true, Bool.and_self, if_true, if_false, Bool.false_eq_true, reduceCtorEq, List.length_cons, List.length_nil, Nat.reduceAdd, Nat.reduceSub, List.all_cons, List.all_nil, List.getD_cons_zero, List.getD_cons_succ, plainVs, backV, wipeW, biD, len_lst, len_tup, len_scr, tupleD, listD, allD, intD, absD, isiD, isiO_non, isiO_bl, isiO_int, isiO_str, isiO_tup, isiO_lst, isiO_scr, len_gl, x_gl, isN, b_add, b_sub, b_mulr, b_mull, b_fdiv, b_mod, b_pow, b_shl, b_shr, b_band, b_bor, b_bxor, b_addt, b_addl, b_repl, c_eqi, c_eqs, c_eqb, c_nei, c_nes, c_lt, c_le, c_gt, c_ge, c_is, c_isn, c_isb, c_isnb, isB, c_in, x_lst, x_tup, x_scr, it_lst, it_tup, it_scr, Bool.not_true, Bool.not_false, id_eq, blsOf, intsOf, strsOf, and_self, true_and, and_true, Nat.reduceMul, Nat.reducePow, Nat.reduceLeDiff, Int.reduceLT, Int.reduceLE, Int.reduceNeg, Int.reducePow, Int.reduceToNat, Int.reduceMul, Int.reduceAdd, Int.reduceSub, List.flatten_cons, List.flatten_nil, List.append_nil, line_nil, line_n, decide_true, decide_false, hi, e2]
theorem iff_no {φ : Phi} {ρ ρ' : Pv.Env} {c : T} {a : Ss} (h : evT φ c ρ = .ok false ρ') : run φ (.iff c a .nil) ρ = .next ρ' := by
  rw [run_iff, h]
  simp only [FR.of_ok, Bool.false_eq_true, if_false, runs_nil]

/-- a list of four arguments -/
theorem callG_4 {φ : Phi} {f : Nat} {x y z t : D} {a : A} {u v w r : Pv.W} (h : φ f [.dat x, .dat y, .dat z, .dat t] = .ok a [u, v, w, r]) (ρ : Pv.Env) : callG φ f [.d x, .d y, .d z, .d t] ρ = .ok a ρ := by
  unfold callG
  rw [if_pos (by simp [lents])]
  simp only [ags_cons, ag_d, ags_nil, Option.bind_some, Option.map_some, h, backs_d, backs_nil, of_some, R.bind_ok]

end Pv

namespace K28
open PySem Pv
def top (i : Nat) : Stmt := PySem.Challenge.pw_wirestowords_k28_whole_words_of_leases.main.body.getD i (.Pass ⟨0, 0, 0, 0⟩)
def c_is_count : Ss := (.cons (.ret (.and (.isi (.var 0) 0) (.and (.not (.isi (.var 0) 1)) (.cmp .GtE (.var 0) (.cst (.int 0)))))) .nil)
def r_is_count : Pv.Row := ⟨"is_count", top 5, ["value"], 1, 0, c_is_count⟩
def c_is_octet : Ss := (.cons (.ret (.and (.call 0 (.cons false (.var 0) .nil)) (.cmp .Lt (.var 0) (.cst (.int 256))))) .nil)
def r_is_octet : Pv.Row := ⟨"is_octet", top 6, ["value"], 1, 0, c_is_octet⟩
def c_are_octets : Ss := (.cons (.ret (.and (.isi (.var 0) 3) (.bi 3 (.cons false (.lc (.call 1 (.cons false (.var 1) .nil)) (.name 1) (.ex (.var 0)) .yes [1]) .nil)))) .nil)
def r_are_octets : Pv.Row := ⟨"are_octets", top 7, ["value", "one"], 1, 0, c_are_octets⟩
def c_octet_pairs : Ss := (.cons (.ret (.bi 1 (.cons false (.lc (.bin .BitAnd (.bin .RShift (.var 0) (.bin .Mult (.cst (.int 8)) (.bin .Sub (.bin .Sub (.var 1) (.cst (.int 1))) (.var 2)))) (.cst (.int 255))) (.name 2) (.rng1 (.var 1)) .yes [2]) .nil))) .nil)
def r_octet_pairs : Pv.Row := ⟨"octet_pairs", top 8, ["number", "size", "k"], 2, 0, c_octet_pairs⟩
def c_number_of_octets : Ss := (.cons (.asg (.name 1) (.cst (.int 0))) (.cons (.fr (.name 2) (.ex (.var 0)) (.cons (.asg (.name 1) (.bin .Add (.bin .Mult (.cst (.int 256)) (.var 1)) (.var 2))) .nil)) (.cons (.ret (.var 1)) .nil)))
def r_number_of_octets : Pv.Row := ⟨"number_of_octets", top 9, ["octets", "found", "one"], 1, 0, c_number_of_octets⟩
def c_is_address : Ss := (.cons (.iff (.or (.not (.val (.isi (.var 0) 3))) (.or (.val (.cmp .NotEq (.bi 0 (.cons false (.var 0) .nil)) (.cst (.int 2)))) (.not (.val (.bi 3 (.cons false (.lc (.call 0 (.cons false (.var 1) .nil)) (.name 1) (.ex (.var 0)) .yes [1]) .nil)))))) (.cons (.ret (.cst (.bl false))) .nil) .nil) (.cons (.ret (.and (.cmp2 .LtE .LtE (.cst (.int 1)) (.ix (.var 0) (.cst (.int 0))) (.cst (.int 30))) (.cmp2 .LtE .LtE (.cst (.int 1)) (.ix (.var 0) (.cst (.int 1))) (.cst (.int 250))))) .nil))
def r_is_address : Pv.Row := ⟨"is_address", top 17, ["value", "one"], 1, 0, c_is_address⟩
def c_address_octets : Ss := (.cons (.iff (.val (.cmp .Is (.var 0) (.cst .non))) (.cons (.ret (.tup (.cons false (.cst (.int 0)) (.cons false (.cst (.int 0)) .nil)))) .nil) .nil) (.cons (.iff (.not (.val (.call 5 (.cons false (.var 0) .nil)))) (.cons (.rse 1 "InvalidAddress" (.cst .non)) .nil) .nil) (.cons (.ret (.var 0)) .nil)))
def r_address_octets : Pv.Row := ⟨"address_octets", top 18, ["address"], 1, 0, c_address_octets⟩
def c_address_of_octets : Ss := (.cons (.ret (.ife (.val (.call 5 (.cons false (.bi 1 (.cons false (.var 0) .nil)) .nil))) (.bi 1 (.cons false (.var 0) .nil)) (.cst .non))) .nil)
def r_address_of_octets : Pv.Row := ⟨"address_of_octets", top 19, ["octets"], 1, 0, c_address_of_octets⟩
def c_is_hardware : Ss := (.cons (.ret (.and (.call 0 (.cons false (.var 0) .nil)) (.cmp2 .LtE .LtE (.cst (.int 1)) (.var 0) (.cst (.int 200))))) .nil)
def r_is_hardware : Pv.Row := ⟨"is_hardware", top 20, ["value"], 1, 0, c_is_hardware⟩
def c_is_boot : Ss := (.cons (.ret (.and (.call 0 (.cons false (.var 0) .nil)) (.cmp2 .LtE .LtE (.cst (.int 1)) (.var 0) (.cst (.int 201))))) .nil)
def r_is_boot : Pv.Row := ⟨"is_boot", top 21, ["value"], 1, 0, c_is_boot⟩
def c_lease_ask : Ss := (.cons (.ret (.bin .Add (.tup (.cons false (.cst (.int 1)) (.cons false (.var 0) (.cons false (.var 1) .nil)))) (.call 3 (.cons false (.var 2) (.cons false (.cst (.int 2)) .nil))))) .nil)
def r_lease_ask : Pv.Row := ⟨"lease_ask", top 22, ["hw", "boot", "number"], 3, 0, c_lease_ask⟩
def c_lease_answer : Ss := (.cons (.ret (.bin .Add (.bin .Add (.tup (.cons false (.cst (.int 2)) (.cons false (.var 0) (.cons false (.var 1) .nil)))) (.call 3 (.cons false (.var 2) (.cons false (.cst (.int 2)) .nil)))) (.call 6 (.cons false (.var 3) .nil)))) .nil)
def r_lease_answer : Pv.Row := ⟨"lease_answer", top 23, ["hw", "boot", "number", "address"], 4, 0, c_lease_answer⟩
def c_lease_word : Ss := (.cons (.iff (.or (.not (.val (.call 2 (.cons false (.var 0) .nil)))) (.val (.cmp .NotIn (.bi 0 (.cons false (.var 0) .nil)) (.tup (.cons false (.cst (.int 5)) (.cons false (.cst (.int 7)) .nil)))))) (.cons (.ret (.cst .non)) .nil) .nil) (.cons (.iff (.or (.not (.val (.call 8 (.cons false (.ix (.var 0) (.cst (.int 1))) .nil)))) (.not (.val (.call 9 (.cons false (.ix (.var 0) (.cst (.int 2))) .nil))))) (.cons (.ret (.cst .non)) .nil) .nil) (.cons (.asg (.name 1) (.call 4 (.cons false (.sl (.var 0) (.so (.cst (.int 3))) (.so (.cst (.int 5)))) .nil))) (.cons (.iff (.and (.val (.cmp .Eq (.ix (.var 0) (.cst (.int 0))) (.cst (.int 1)))) (.val (.cmp .Eq (.bi 0 (.cons false (.var 0) .nil)) (.cst (.int 5))))) (.cons (.ret (.tup (.cons false (.cst (.str "ask")) (.cons false (.ix (.var 0) (.cst (.int 1))) (.cons false (.ix (.var 0) (.cst (.int 2))) (.cons false (.var 1) .nil)))))) .nil) .nil) (.cons (.asg (.name 2) (.call 7 (.cons false (.sl (.var 0) (.so (.cst (.int 5))) .no) .nil))) (.cons (.iff (.or (.val (.cmp .NotEq (.ix (.var 0) (.cst (.int 0))) (.cst (.int 2)))) (.or (.val (.cmp .NotEq (.bi 0 (.cons false (.var 0) .nil)) (.cst (.int 7)))) (.val (.cmp .Is (.var 2) (.cst .non))))) (.cons (.ret (.cst .non)) .nil) .nil) (.cons (.ret (.tup (.cons false (.cst (.str "answer")) (.cons false (.ix (.var 0) (.cst (.int 1))) (.cons false (.ix (.var 0) (.cst (.int 2))) (.cons false (.var 1) (.cons false (.var 2) .nil))))))) .nil)))))))
def r_lease_word : Pv.Row := ⟨"lease_word", top 24, ["octets", "number", "address"], 1, 0, c_lease_word⟩
def c__law_tape : Ss := (.cons (.asg (.name 1) (.cst (.int 7))) (.cons (.fr (.name 2) (.ex (.var 0)) (.cons (.asg (.name 1) (.bin .Mod (.bi 6 (.cons false (.bin .Add (.bin .Mult (.var 1) (.cst (.int 31))) (.var 2)) .nil)) (.cst (.int 1000003)))) .nil)) (.cons (.ret (.mkT (.lc (.bi 7 (.cons false (.bi 6 (.cons false (.var 2) .nil)) .nil)) (.name 2) (.ex (.var 0)) .yes [2]) (.bin .Add (.var 1) (.cst (.int 1))))) .nil)))
def r__law_tape : Pv.Row := ⟨"_law_tape", top 26, ["script", "seed", "cell"], 1, 0, c__law_tape⟩
def c__law_draw : Ss := (.cons (.asg (.name 3) (.ix (.var 0) (.cst (.int 0)))) (.cons (.whl (.and (.val (.cmp .Gt (.bi 0 (.cons false (.ali 3 2) .nil)) (.cst (.int 0)))) (.val (.cmp .Eq (.ix (.ali 3 2) (.cst (.int 0))) (.cst (.int 0))))) (.cons (.gpop 3 2) .nil)) (.cons (.iff (.val (.cmp .Gt (.bi 0 (.cons false (.ali 3 2) .nil)) (.cst (.int 0)))) (.cons (.asg (.name 4) (.ix (.ali 3 2) (.cst (.int 0)))) (.cons (.gset 3 2 (.cst (.int 0)) (.bin .FloorDiv (.var 4) (.var 1))) (.cons (.ret (.bin .Mod (.bi 6 (.cons false (.var 4) .nil)) (.var 1))) .nil))) .nil) (.cons (.seti 0 (.cst (.int 1)) (.bin .Mod (.bi 6 (.cons false (.bin .Add (.bin .Mult (.ix (.var 0) (.cst (.int 1))) (.cst (.int 48271))) (.cst (.int 12345))) .nil)) (.cst (.int 2147483647)))) (.cons (.ret (.bin .Mod (.bi 6 (.cons false (.bin .FloorDiv (.ix (.var 0) (.cst (.int 1))) (.cst (.int 64))) .nil)) (.var 1))) .nil)))))
def r__law_draw : Pv.Row := ⟨"_law_draw", top 27, ["tape", "many", "tape'", "cells", "number"], 2, 1, c__law_draw⟩
def c__law_pick : Ss := (.cons (.ret (.ix (.var 1) (.callT 14 (.cons true (.var 0) (.cons false (.bi 0 (.cons false (.var 1) .nil)) .nil)) 2))) .nil)
def r__law_pick : Pv.Row := ⟨"_law_pick", top 28, ["tape", "row", "tape'"], 2, 1, c__law_pick⟩
def c__law_same : Ss := (.cons (.iff (.or (.val (.isi (.var 0) 3)) (.val (.isi (.var 1) 3))) (.cons (.iff (.or (.not (.val (.isi (.var 0) 3))) (.or (.not (.val (.isi (.var 1) 3))) (.val (.cmp .NotEq (.bi 0 (.cons false (.var 0) .nil)) (.bi 0 (.cons false (.var 1) .nil)))))) (.cons (.ret (.cst (.bl false))) .nil) .nil) (.cons (.ret (.bi 3 (.cons false (.lc (.call 16 (.cons false (.var 2) (.cons false (.var 3) .nil))) (.tup (.cons (.name 2) (.cons (.name 3) .nil))) (.zip (.var 0) (.var 1)) .yes [2, 3]) .nil))) .nil)) .nil) (.cons (.iff (.or (.val (.cmp .Is (.var 0) (.cst .non))) (.val (.cmp .Is (.var 1) (.cst .non)))) (.cons (.ret (.and (.cmp .Is (.var 0) (.cst .non)) (.cmp .Is (.var 1) (.cst .non)))) .nil) .nil) (.cons (.iff (.or (.val (.cmp .NotEq (.isi (.var 0) 1) (.isi (.var 1) 1))) (.val (.cmp .NotEq (.isi (.var 0) 2) (.isi (.var 1) 2)))) (.cons (.ret (.cst (.bl false))) .nil) .nil) (.cons (.ret (.cmp .Eq (.var 0) (.var 1))) .nil))))
def r__law_same : Pv.Row := ⟨"_law_same", top 29, ["told", "due", "one", "other"], 2, 0, c__law_same⟩
def c__law_word : Ss := (.cons (.iff (.or (.not (.val (.isi (.var 0) 3))) (.or (.val (.cmp .NotIn (.bi 0 (.cons false (.var 0) .nil)) (.lst (.cons false (.cst (.int 5)) (.cons false (.cst (.int 7)) .nil))))) (.not (.val (.bi 3 (.cons false (.lc (.and (.isi (.var 2) 0) (.and (.not (.isi (.var 2) 1)) (.cmp2 .LtE .LtE (.cst (.int 0)) (.var 2) (.cst (.int 255))))) (.name 2) (.ex (.var 0)) .yes [2]) .nil)))))) (.cons (.ret (.cst .non)) .nil) .nil) (.cons (.iff (.or (.not (.val (.cmp2 .LtE .LtE (.cst (.int 1)) (.ix (.var 0) (.cst (.int 1))) (.cst (.int 200))))) (.not (.val (.cmp2 .LtE .LtE (.cst (.int 1)) (.ix (.var 0) (.cst (.int 2))) (.cst (.int 201)))))) (.cons (.ret (.cst .non)) .nil) .nil) (.cons (.asg (.name 1) (.bin .Add (.bin .Mult (.ix (.var 0) (.cst (.int 3))) (.cst (.int 256))) (.ix (.var 0) (.cst (.int 4))))) (.cons (.iff (.and (.val (.cmp .Eq (.ix (.var 0) (.cst (.int 0))) (.cst (.int 1)))) (.val (.cmp .Eq (.bi 0 (.cons false (.var 0) .nil)) (.cst (.int 5))))) (.cons (.ret (.tup (.cons false (.cst (.str "ask")) (.cons false (.ix (.var 0) (.cst (.int 1))) (.cons false (.ix (.var 0) (.cst (.int 2))) (.cons false (.var 1) .nil)))))) .nil) .nil) (.cons (.iff (.and (.val (.cmp .Eq (.ix (.var 0) (.cst (.int 0))) (.cst (.int 2)))) (.and (.val (.cmp .Eq (.bi 0 (.cons false (.var 0) .nil)) (.cst (.int 7)))) (.and (.val (.cmp2 .LtE .LtE (.cst (.int 1)) (.ix (.var 0) (.cst (.int 5))) (.cst (.int 30)))) (.val (.cmp2 .LtE .LtE (.cst (.int 1)) (.ix (.var 0) (.cst (.int 6))) (.cst (.int 250))))))) (.cons (.ret (.tup (.cons false (.cst (.str "answer")) (.cons false (.ix (.var 0) (.cst (.int 1))) (.cons false (.ix (.var 0) (.cst (.int 2))) (.cons false (.var 1) (.cons false (.tup (.cons false (.ix (.var 0) (.cst (.int 5))) (.cons false (.ix (.var 0) (.cst (.int 6))) .nil))) .nil))))))) .nil) .nil) (.cons (.ret (.cst .non)) .nil))))))
def r__law_word : Pv.Row := ⟨"_law_word", top 30, ["octets", "number", "k"], 1, 0, c__law_word⟩
def c__law_asked : Ss := (.cons (.tryAs (.cons (.ret (.call 6 (.cons false (.var 0) .nil))) .nil) 1 1 (.ret (.tup [.plc, .nam]))) .nil)
def r__law_asked : Pv.Row := ⟨"_law_asked", top 31, ["value", "e"], 1, 0, c__law_asked⟩
def c_law_11 : Ss := .nil
def c_law_10 : Ss := .cons (.ret (.and (.cmp .Is (.call 5 (.cons false (.var 5) .nil)) (.cst (.bl true))) (.and (.cmp .Eq (.call 7 (.cons false (.var 5) .nil)) (.var 5)) (.cmp .Is (.call 12 (.cons false (.tup .nil) .nil)) (.cst .non))))) c_law_11
def c_law_9 : Ss := .cons (.iff (.or (.val (.cmp .NotEq (.call 18 (.cons false (.cst .non) .nil)) (.tup (.cons false (.cst (.int 0)) (.cons false (.cst (.int 0)) .nil))))) (.or (.val (.cmp .IsNot (.call 7 (.cons false (.tup (.cons false (.cst (.int 0)) (.cons false (.cst (.int 0)) .nil))) .nil)) (.cst .non))) (.or (.val (.cmp .IsNot (.call 7 (.cons false (.tup (.cons false (.cst (.int 31)) (.cons false (.cst (.int 1)) .nil))) .nil)) (.cst .non))) (.val (.cmp .IsNot (.call 7 (.cons false (.tup (.cons false (.cst (.int 1)) (.cons false (.cst (.int 251)) .nil))) .nil)) (.cst .non)))))) (.cons (.ret (.cst (.bl false))) .nil) .nil) c_law_10
def c_law_8 : Ss := .cons (.fr (.name 8) (.rng1 (.cst (.int 8))) (.cons (.asg (.name 15) (.tup (.cons false (.callT 15 (.cons true (.var 1) (.cons false (.lst (.cons false (.cst (.int 0)) (.cons false (.cst (.int 1)) (.cons false (.cst (.int 2)) (.cons false (.cst (.int 29)) (.cons false (.cst (.int 30)) (.cons false (.cst (.int 31)) (.cons false (.cst (.bl true)) (.cons false (.cst .non) (.cons false (.ix (.var 5) (.cst (.int 0))) .nil)))))))))) .nil)) 17) (.cons false (.callT 15 (.cons true (.var 1) (.cons false (.lst (.cons false (.cst (.int 0)) (.cons false (.cst (.int 1)) (.cons false (.cst (.int 249)) (.cons false (.cst (.int 250)) (.cons false (.cst (.int 251)) (.cons false (.cst (.bl false)) (.cons false (.cst (.str "2")) (.cons false (.ix (.var 5) (.cst (.int 1))) .nil))))))))) .nil)) 17) .nil)))) (.cons (.asg (.name 16) (.and (.bi 3 (.cons false (.lc (.and (.isi (.var 11) 0) (.not (.isi (.var 11) 1))) (.name 11) (.ex (.var 15)) .yes [11]) .nil)) (.and (.cmp2 .LtE .LtE (.cst (.int 1)) (.ix (.var 15) (.cst (.int 0))) (.cst (.int 30))) (.cmp2 .LtE .LtE (.cst (.int 1)) (.ix (.var 15) (.cst (.int 1))) (.cst (.int 250)))))) (.cons (.iff (.or (.val (.cmp .NotEq (.call 5 (.cons false (.var 15) .nil)) (.var 16))) (.not (.val (.call 16 (.cons false (.call 18 (.cons false (.var 15) .nil)) (.cons false (.ife (.val (.var 16)) (.var 15) (.tup (.cons false (.cst .non) (.cons false (.cst (.str "InvalidAddress")) .nil)))) .nil)))))) (.cons (.ret (.cst (.bl false))) .nil) .nil) (.cons (.iff (.or (.and (.val (.var 16)) (.or (.val (.cmp .NotEq (.call 7 (.cons false (.var 15) .nil)) (.var 15))) (.val (.cmp .NotEq (.call 7 (.cons false (.bi 2 (.cons false (.var 15) .nil)) .nil)) (.var 15))))) (.or (.val (.call 5 (.cons false (.bi 2 (.cons false (.var 15) .nil)) .nil))) (.val (.call 5 (.cons false (.bin .Add (.var 15) (.tup (.cons false (.cst (.int 1)) .nil))) .nil))))) (.cons (.ret (.cst (.bl false))) .nil) .nil) .nil))))) c_law_9
def c_law_7 : Ss := .cons (.fr (.name 13) (.ex (.lst (.cons false (.cst (.int 0)) (.cons false (.cst (.int 1)) (.cons false (.cst (.int 30)) (.cons false (.cst (.int 31)) (.cons false (.cst (.int 200)) (.cons false (.cst (.int 201)) (.cons false (.cst (.int 202)) (.cons false (.neg (.cst (.int 1))) (.cons false (.cst (.bl true)) (.cons false (.cst .non) (.cons false (.cst (.str "1")) (.cons false (.tup (.cons false (.cst (.int 1)) .nil)) (.cons false (.var 2) (.cons false (.var 3) .nil)))))))))))))))) (.cons (.asg (.name 14) (.and (.isi (.var 13) 0) (.not (.isi (.var 13) 1)))) (.cons (.iff (.or (.val (.cmp .NotEq (.call 8 (.cons false (.var 13) .nil)) (.and (.var 14) (.cmp2 .LtE .LtE (.cst (.int 1)) (.var 13) (.cst (.int 200)))))) (.val (.cmp .NotEq (.call 9 (.cons false (.var 13) .nil)) (.and (.var 14) (.cmp2 .LtE .LtE (.cst (.int 1)) (.var 13) (.cst (.int 201))))))) (.cons (.ret (.cst (.bl false))) .nil) .nil) .nil))) c_law_8
def c_law_6 : Ss := .cons (.fr (.name 8) (.rng1 (.cst (.int 12))) (.cons (.asg (.name 9) (.callT 15 (.cons true (.var 1) (.cons false (.lst (.cons false (.var 6) (.cons false (.var 7) .nil))) .nil)) 17)) (.cons (.asg (.name 10) (.callT 14 (.cons true (.var 1) (.cons false (.bi 0 (.cons false (.var 9) .nil)) .nil)) 17)) (.cons (.asg (.name 11) (.callT 15 (.cons true (.var 1) (.cons false (.lst (.cons false (.cst (.int 0)) (.cons false (.cst (.int 1)) (.cons false (.cst (.int 2)) (.cons false (.cst (.int 3)) (.cons false (.cst (.int 30)) (.cons false (.cst (.int 31)) (.cons false (.cst (.int 200)) (.cons false (.cst (.int 201)) (.cons false (.cst (.int 202)) (.cons false (.cst (.int 250)) (.cons false (.cst (.int 251)) (.cons false (.cst (.int 255)) (.cons false (.cst (.int 256)) (.cons false (.neg (.cst (.int 1))) (.cons false (.cst (.bl true)) (.cons false (.cst .non) .nil))))))))))))))))) .nil)) 17)) (.cons (.asg (.name 12) (.callT 15 (.cons true (.var 1) (.cons false (.lst (.cons false (.bin .Add (.bin .Add (.sl (.var 9) .no (.so (.var 10))) (.tup (.cons false (.var 11) .nil))) (.sl (.var 9) (.so (.bin .Add (.var 10) (.cst (.int 1)))) .no)) (.cons false (.bin .Add (.sl (.var 9) .no (.so (.var 10))) (.sl (.var 9) (.so (.bin .Add (.var 10) (.cst (.int 1)))) .no)) (.cons false (.bin .Add (.var 9) (.tup (.cons false (.var 11) .nil))) (.cons false (.sl (.var 9) .no (.so (.var 10))) (.cons false (.bi 2 (.cons false (.var 9) .nil)) (.cons false (.cst .non) (.cons false (.cst (.str "ask")) .nil)))))))) .nil)) 17)) (.cons (.iff (.not (.val (.call 16 (.cons false (.call 12 (.cons false (.var 12) .nil)) (.cons false (.call 17 (.cons false (.var 12) .nil)) .nil))))) (.cons (.ret (.cst (.bl false))) .nil) .nil) .nil)))))) c_law_7
def c_law_5 : Ss := .cons (.iff (.or (.not (.val (.call 16 (.cons false (.call 12 (.cons false (.var 6) .nil)) (.cons false (.tup (.cons false (.cst (.str "ask")) (.cons false (.var 2) (.cons false (.var 3) (.cons false (.var 4) .nil))))) .nil))))) (.not (.val (.call 16 (.cons false (.call 12 (.cons false (.var 7) .nil)) (.cons false (.tup (.cons false (.cst (.str "answer")) (.cons false (.var 2) (.cons false (.var 3) (.cons false (.var 4) (.cons false (.var 5) .nil)))))) .nil)))))) (.cons (.ret (.cst (.bl false))) .nil) .nil) c_law_6
def c_law_4 : Ss := .cons (.iff (.or (.not (.val (.call 16 (.cons false (.var 6) (.cons false (.tup (.cons false (.cst (.int 1)) (.cons false (.var 2) (.cons false (.var 3) (.cons false (.bin .RShift (.var 4) (.cst (.int 8))) (.cons false (.bin .BitAnd (.var 4) (.cst (.int 255))) .nil)))))) .nil))))) (.not (.val (.call 16 (.cons false (.var 7) (.cons false (.bin .Add (.tup (.cons false (.cst (.int 2)) (.cons false (.var 2) (.cons false (.var 3) (.cons false (.bin .RShift (.var 4) (.cst (.int 8))) (.cons false (.bin .BitAnd (.var 4) (.cst (.int 255))) .nil)))))) (.var 5)) .nil)))))) (.cons (.ret (.cst (.bl false))) .nil) .nil) c_law_5
def c_law_3 : Ss := .cons (.par 6 7 (.call 10 (.cons false (.var 2) (.cons false (.var 3) (.cons false (.var 4) .nil)))) (.call 11 (.cons false (.var 2) (.cons false (.var 3) (.cons false (.var 4) (.cons false (.var 5) .nil)))))) c_law_4
def c_law_2 : Ss := .cons (.asg (.name 5) (.tup (.cons false (.bin .Add (.cst (.int 1)) (.callT 14 (.cons true (.var 1) (.cons false (.cst (.int 30)) .nil)) 17)) (.cons false (.bin .Add (.cst (.int 1)) (.callT 14 (.cons true (.var 1) (.cons false (.cst (.int 250)) .nil)) 17)) .nil)))) c_law_3
def c_law_1 : Ss := .cons (.mpar [2, 3, 4] (.cons false (.bin .Add (.cst (.int 1)) (.callT 14 (.cons true (.var 1) (.cons false (.cst (.int 200)) .nil)) 17)) (.cons false (.bin .Add (.cst (.int 1)) (.callT 14 (.cons true (.var 1) (.cons false (.cst (.int 201)) .nil)) 17)) (.cons false (.callT 14 (.cons true (.var 1) (.cons false (.cst (.int 65536)) .nil)) 17) .nil)))) c_law_2
def c_law_0 : Ss := .cons (.asgT 1 17 (.call 13 (.cons false (.var 0) .nil))) c_law_1
def c_law : Ss := c_law_0
def r_law : Pv.Row := ⟨"law", top 32, ["script", "tape", "hw", "boot", "number", "address", "ask", "answer", "turn", "octets", "k", "one", "bent", "value", "plain", "pair", "good", "tape'"], 1, 0, c_law⟩
def rows : List Pv.Row := [r_is_count, r_is_octet, r_are_octets, r_octet_pairs, r_number_of_octets, r_is_address, r_address_octets, r_address_of_octets, r_is_hardware, r_is_boot, r_lease_ask, r_lease_answer, r_lease_word, r__law_tape, r__law_draw, r__law_pick, r__law_same, r__law_word, r__law_asked, r_law]
def G : CGl := ⟨[("LEASE_ANSWER", .int 2), ("LEASE_ASK", .int 1), ("MOST_BOOT", .int 201), ("MOST_HOST", .int 250), ("MOST_HW", .int 200), ("MOST_LAN", .int 30), ("OCTET", .int 256)], [("is_count", 0), ("is_octet", 1), ("are_octets", 2), ("octet_pairs", 3), ("number_of_octets", 4), ("is_address", 5), ("address_octets", 6), ("address_of_octets", 7), ("is_hardware", 8), ("is_boot", 9), ("lease_ask", 10), ("lease_answer", 11), ("lease_word", 12), ("_law_tape", 13), ("_law_draw", 14), ("_law_pick", 15), ("_law_same", 16), ("_law_word", 17), ("_law_asked", 18), ("law", 19)], ["abs", "all", "bool", "int", "isinstance", "len", "list", "range", "str", "tuple", "zip"], ["WireError", "InvalidAddress"], [14, 15]⟩
def cs : List CRow := [⟨"WireError", top 1⟩, ⟨"InvalidAddress", top 2⟩]
def stW : Stmt := top 1
theorem hcs : cs.map (·.z) = G.xcs := rfl
theorem x_WireError : InitT "WireError" (decide (("WireError" : Str) = w0)) (L2.defArgs (clsInit (top 1))) (L2.defBody (clsInit (top 1))) (L2.defScope (clsInit (top 1))) := .top rfl rfl rfl
theorem x_InvalidAddress : InitT "InvalidAddress" (decide (("InvalidAddress" : Str) = w0)) (L2.defArgs (clsInit (top 2))) (L2.defBody (clsInit (top 2))) (L2.defScope (clsInit (top 2))) := .sub rfl rfl
theorem hT : ∀ r ∈ cs, InitT r.z (decide (r.z = w0)) (L2.defArgs (clsInit r.st)) (L2.defBody (clsInit r.st)) (L2.defScope (clsInit r.st)) := by
  intro r hr
  simp only [cs, List.mem_cons, List.not_mem_nil, or_false] at hr
  rcases hr with rfl | rfl
  · exact x_WireError
  · exact x_InvalidAddress
theorem hTW : cs = [] ∨ InitT w0 true (L2.defArgs (clsInit stW)) (L2.defBody (clsInit stW)) (L2.defScope (clsInit stW)) := .inr x_WireError
theorem b_is_count : r_is_count.binds := fun _ _ _ _ _ _ us hl => match us, hl with | [_], _ => rfl
theorem b_is_octet : r_is_octet.binds := fun _ _ _ _ _ _ us hl => match us, hl with | [_], _ => rfl
theorem b_are_octets : r_are_octets.binds := fun _ _ _ _ _ _ us hl => match us, hl with | [_], _ => rfl
theorem b_octet_pairs : r_octet_pairs.binds := fun _ _ _ _ _ _ us hl => match us, hl with | [_, _], _ => rfl
theorem b_number_of_octets : r_number_of_octets.binds := fun _ _ _ _ _ _ us hl => match us, hl with | [_], _ => rfl
theorem b_is_address : r_is_address.binds := fun _ _ _ _ _ _ us hl => match us, hl with | [_], _ => rfl
theorem b_address_octets : r_address_octets.binds := fun _ _ _ _ _ _ us hl => match us, hl with | [_], _ => rfl
theorem b_address_of_octets : r_address_of_octets.binds := fun _ _ _ _ _ _ us hl => match us, hl with | [_], _ => rfl
theorem b_is_hardware : r_is_hardware.binds := fun _ _ _ _ _ _ us hl => match us, hl with | [_], _ => rfl
theorem b_is_boot : r_is_boot.binds := fun _ _ _ _ _ _ us hl => match us, hl with | [_], _ => rfl
theorem b_lease_ask : r_lease_ask.binds := fun _ _ _ _ _ _ us hl => match us, hl with | [_, _, _], _ => rfl
theorem b_lease_answer : r_lease_answer.binds := fun _ _ _ _ _ _ us hl => match us, hl with | [_, _, _, _], _ => rfl
theorem b_lease_word : r_lease_word.binds := fun _ _ _ _ _ _ us hl => match us, hl with | [_], _ => rfl
theorem b__law_tape : r__law_tape.binds := fun _ _ _ _ _ _ us hl => match us, hl with | [_], _ => rfl
theorem b__law_draw : r__law_draw.binds := fun _ _ _ _ _ _ us hl => match us, hl with | [_, _], _ => rfl
theorem b__law_pick : r__law_pick.binds := fun _ _ _ _ _ _ us hl => match us, hl with | [_, _], _ => rfl
theorem b__law_same : r__law_same.binds := fun _ _ _ _ _ _ us hl => match us, hl with | [_, _], _ => rfl
theorem b__law_word : r__law_word.binds := fun _ _ _ _ _ _ us hl => match us, hl with | [_], _ => rfl
theorem b__law_asked : r__law_asked.binds := fun _ _ _ _ _ _ us hl => match us, hl with | [_], _ => rfl
theorem b_law : r_law.binds := fun _ _ _ _ _ _ us hl => match us, hl with | [_], _ => rfl
theorem ok_is_count : r_is_count.ok G = true := by decide +kernel
theorem ok_is_octet : r_is_octet.ok G = true := by decide +kernel
theorem ok_are_octets : r_are_octets.ok G = true := by decide +kernel
theorem ok_octet_pairs : r_octet_pairs.ok G = true := by decide +kernel
theorem ok_number_of_octets : r_number_of_octets.ok G = true := by decide +kernel
theorem ok_is_address : r_is_address.ok G = true := by decide +kernel
theorem ok_address_octets : r_address_octets.ok G = true := by decide +kernel
theorem ok_address_of_octets : r_address_of_octets.ok G = true := by decide +kernel
theorem ok_is_hardware : r_is_hardware.ok G = true := by decide +kernel
theorem ok_is_boot : r_is_boot.ok G = true := by decide +kernel
theorem ok_lease_ask : r_lease_ask.ok G = true := by decide +kernel
theorem ok_lease_answer : r_lease_answer.ok G = true := by decide +kernel
theorem ok_lease_word : r_lease_word.ok G = true := by decide +kernel
theorem ok__law_tape : r__law_tape.ok G = true := by decide +kernel
theorem ok__law_draw : r__law_draw.ok G = true := by decide +kernel
theorem ok__law_pick : r__law_pick.ok G = true := by decide +kernel
theorem ok__law_same : r__law_same.ok G = true := by decide +kernel
theorem ok__law_word : r__law_word.ok G = true := by decide +kernel
theorem ok__law_asked : r__law_asked.ok G = true := by decide +kernel
theorem ok_law : r_law.ok G = true := by decide +kernel
theorem glok : glOk G rows = true := by decide +kernel
theorem oks : (rows.all fun r => r.ok G) = true := by
  simp only [rows, List.all_cons, List.all_nil, ok_is_count, ok_is_octet, ok_are_octets, ok_octet_pairs, ok_number_of_octets, ok_is_address, ok_address_octets, ok_address_of_octets, ok_is_hardware, ok_is_boot, ok_lease_ask, ok_lease_answer, ok_lease_word, ok__law_tape, ok__law_draw, ok__law_pick, ok__law_same, ok__law_word, ok__law_asked, ok_law, Bool.and_self, Bool.and_true]
theorem bnds : ∀ r ∈ rows, r.binds := by
  intro r hr
  simp only [rows, List.mem_cons, List.not_mem_nil, or_false] at hr
  rcases hr with rfl | rfl | rfl | rfl | rfl | rfl | rfl | rfl | rfl | rfl | rfl | rfl | rfl | rfl | rfl | rfl | rfl | rfl | rfl | rfl
  · exact b_is_count
  · exact b_is_octet
  · exact b_are_octets
  · exact b_octet_pairs
  · exact b_number_of_octets
  · exact b_is_address
  · exact b_address_octets
  · exact b_address_of_octets
  · exact b_is_hardware
  · exact b_is_boot
  · exact b_lease_ask
  · exact b_lease_answer
  · exact b_lease_word
  · exact b__law_tape
  · exact b__law_draw
  · exact b__law_pick
  · exact b__law_same
  · exact b__law_word
  · exact b__law_asked
  · exact b_law
theorem p0 : prg rows 0 = some ⟨1, 1, c_is_count⟩ := rfl
theorem p1 : prg rows 1 = some ⟨1, 1, c_is_octet⟩ := rfl
theorem p2 : prg rows 2 = some ⟨1, 2, c_are_octets⟩ := rfl
theorem p3 : prg rows 3 = some ⟨2, 3, c_octet_pairs⟩ := rfl
theorem p4 : prg rows 4 = some ⟨1, 3, c_number_of_octets⟩ := rfl
theorem p5 : prg rows 5 = some ⟨1, 2, c_is_address⟩ := rfl
theorem p6 : prg rows 6 = some ⟨1, 1, c_address_octets⟩ := rfl
theorem p7 : prg rows 7 = some ⟨1, 1, c_address_of_octets⟩ := rfl
theorem p8 : prg rows 8 = some ⟨1, 1, c_is_hardware⟩ := rfl
theorem p9 : prg rows 9 = some ⟨1, 1, c_is_boot⟩ := rfl
theorem p10 : prg rows 10 = some ⟨3, 3, c_lease_ask⟩ := rfl
theorem p11 : prg rows 11 = some ⟨4, 4, c_lease_answer⟩ := rfl
theorem p12 : prg rows 12 = some ⟨1, 3, c_lease_word⟩ := rfl
theorem p13 : prg rows 13 = some ⟨1, 3, tapeCode⟩ := rfl
theorem p14 : prg rows 14 = some ⟨3, 5, drawCode⟩ := rfl
theorem p15 : prg rows 15 = some ⟨3, 3, pickTCode 14⟩ := rfl
theorem p16 : prg rows 16 = some ⟨2, 4, c__law_same⟩ := rfl
theorem p17 : prg rows 17 = some ⟨1, 3, c__law_word⟩ := rfl
theorem p18 : prg rows 18 = some ⟨1, 2, c__law_asked⟩ := rfl
theorem p19 : prg rows 19 = some ⟨1, 18, c_law⟩ := rfl
/-- no reference -/
def Sol (d : D) : Prop := ∀ t, isiO d t = some (isiD d t)
theorem sol_int (i : Int) : Sol (.int i) := fun _ => rfl
theorem sol_bl (i : Bool) : Sol (.bl i) := fun _ => rfl
theorem sol_str (i : Str) : Sol (.str i) := fun _ => rfl
theorem sol_non : Sol .non := fun _ => rfl
theorem sol_tup (i : List D) : Sol (.tup i) := fun _ => rfl
theorem sol_lst (i : List D) : Sol (.lst i) := fun _ => rfl
theorem sol_leaf {d : D} (h : Leaf d) : Sol d := by
  rcases h with rfl | ⟨b, rfl⟩ | ⟨i, rfl⟩ | ⟨s, rfl⟩
  · exact sol_non
  · exact sol_bl b
  · exact sol_int i
  · exact sol_str s
theorem not_adr {b : Nat} {p : Prop} (h : Sol (.adr b)) : p := by cases h 0
theorem not_gl {b : Nat} {ds : List D} {p : Prop} (h : Sol (.gl b ds)) : p := by cases h 0
def isCount : D → Bool
  | .int i => decide (0 ≤ i)
  | _ => false
theorem is_count (k : Nat) {d : D} (h : Sol d) : callK (prg rows) (k + 1) 0 [.dat d] = .ok (.d (.bl (isCount d))) [.dat d] := by
  rw [callK_run p0]
  unfold runF c_is_count
  rw [if_pos ⟨rfl, rfl⟩]
  cases d with
  | adr b => exact not_adr h
  | gl b ds => exact not_gl h
  | dic x => simp only [runs_nil, runs_cons, run_asg, run_asgT, run_par, run_aug, run_app, run_seti, run_expr, run_iff, run_whl, run_fr, run_ret, run_retN, run_pass, run_brk, run_cont, ev_var, ev_cst, ev_tup, ev_lst, ev_bin, ev_neg, ev_cmp, ev_cmp2, ev_and, ev_or, ev_not, ev_ife, ev_ix, ev_sl, ev_call, ev_bi, ev_isi, ev_mt1, ev_lc, ev_ali, ev_mkT, ev_callT, run_tape, run_mpar, evM_nil, evM_cons, thaw_d, thaw_fr, thaw_pl, asgs, run_gset, run_gpop, glL, putG, setG, fin_next, fin_ret, fin_exc, fin_any, seq_any, evs_nil, evs_cons, evL_nil, evL_cons, evG_nil, evG_cons, evT_yes, evT_not, evT_and, evT_or, evT_ife, evT_val, evO_no, evO_so, evI_ex, evI_rng1, evI_rng2, evI_zip, evI_enm, evI_rng3, zip_tup, zip_lst, tru_bl, tru_int, R.bind_ok, FR.of_ok, seq_next, seq_ret, seq_brk, seq_cont, seq_exc, seq_ite, of_some, of_none, get_d, get_fr, get_pl, cont_dat, cont_own, cont_bor, cont_lck, frz_d, frz_fr, asg_d, asg_fr, argF, argT, gets_nil, gets_cons, ags_nil, ags_cons, ag_d, lents_d, lents_pl, lents_nil, backs_nil, backs_d, backs_pl, backW, lock_d, lock_fr, lock_pl, setW, tgD, tgsD, normW, finA, List.getElem?_cons_zero, List.getElem?_cons_succ, List.set_cons_zero, List.set_cons_succ, Option.bind_some, Option.bind_none, Option.map_some, Option.map_none, List.map_cons, List.map_nil, List.replicate, List.cons_append, List.nil_append, Bool.and_true, Bool.and_self, if_true, if_false, Bool.false_eq_true, reduceCtorEq, List.length_cons, List.length_nil, Nat.reduceAdd, Nat.reduceSub, List.all_cons, List.all_nil, List.getD_cons_zero, List.getD_cons_succ, plainVs, backV, wipeW, biD, len_lst, len_tup, len_scr, tupleD, listD, allD, intD, absD, isiD, isiO_non, isiO_bl, isiO_int, isiO_str, isiO_tup, isiO_lst, isiO_scr, len_gl, x_gl, isN, b_add, b_sub, b_mulr, b_mull, b_fdiv, b_mod, b_pow, b_shl, b_shr, b_band, b_bor, b_bxor, b_addt, b_addl, b_repl, c_eqi, c_eqs, c_eqb, c_nei, c_nes, c_lt, c_le, c_gt, c_ge, c_is, c_isn, c_isb, c_isnb, isB, c_in, x_lst, x_tup, x_scr, it_lst, it_tup, it_scr, Bool.not_true, Bool.not_false, id_eq, blsOf, intsOf, strsOf, and_self, true_and, and_true, Nat.reduceMul, Nat.reducePow, Nat.reduceLeDiff, Int.reduceLT, Int.reduceLE, Int.reduceNeg, Int.reducePow, Int.reduceToNat, Int.reduceMul, Int.reduceAdd, Int.reduceSub, List.flatten_cons, List.flatten_nil, List.append_nil, line_nil, line_n, decide_true, decide_false, isCount, h 0]
  | _ => simp only [runs_nil, runs_cons, run_asg, run_asgT, run_par, run_aug, run_app, run_seti, run_expr, run_iff, run_whl, run_fr, run_ret, run_retN, run_pass, run_brk, run_cont, ev_var, ev_cst, ev_tup, ev_lst, ev_bin, ev_neg, ev_cmp, ev_cmp2, ev_and, ev_or, ev_not, ev_ife, ev_ix, ev_sl, ev_call, ev_bi, ev_isi, ev_mt1, ev_lc, ev_ali, ev_mkT, ev_callT, run_tape, run_mpar, evM_nil, evM_cons, thaw_d, thaw_fr, thaw_pl, asgs, run_gset, run_gpop, glL, putG, setG, fin_next, fin_ret, fin_exc, fin_any, seq_any, evs_nil, evs_cons, evL_nil, evL_cons, evG_nil, evG_cons, evT_yes, evT_not, evT_and, evT_or, evT_ife, evT_val, evO_no, evO_so, evI_ex, evI_rng1, evI_rng2, evI_zip, evI_enm, evI_rng3, zip_tup, zip_lst, tru_bl, tru_int, R.bind_ok, FR.of_ok, seq_next, seq_ret, seq_brk, seq_cont, seq_exc, seq_ite, of_some, of_none, get_d, get_fr, get_pl, cont_dat, cont_own, cont_bor, cont_lck, frz_d, frz_fr, asg_d, asg_fr, argF, argT, gets_nil, gets_cons, ags_nil, ags_cons, ag_d, lents_d, lents_pl, lents_nil, backs_nil, backs_d, backs_pl, backW, lock_d, lock_fr, lock_pl, setW, tgD, tgsD, normW, finA, List.getElem?_cons_zero, List.getElem?_cons_succ, List.set_cons_zero, List.set_cons_succ, Option.bind_some, Option.bind_none, Option.map_some, Option.map_none, List.map_cons, List.map_nil, List.replicate, List.cons_append, List.nil_append, Bool.and_true, Bool.and_self, if_true, if_false, Bool.false_eq_true, reduceCtorEq, List.length_cons, List.length_nil, Nat.reduceAdd, Nat.reduceSub, List.all_cons, List.all_nil, List.getD_cons_zero, List.getD_cons_succ, plainVs, backV, wipeW, biD, len_lst, len_tup, len_scr, tupleD, listD, allD, intD, absD, isiD, isiO_non, isiO_bl, isiO_int, isiO_str, isiO_tup, isiO_lst, isiO_scr, len_gl, x_gl, isN, b_add, b_sub, b_mulr, b_mull, b_fdiv, b_mod, b_pow, b_shl, b_shr, b_band, b_bor, b_bxor, b_addt, b_addl, b_repl, c_eqi, c_eqs, c_eqb, c_nei, c_nes, c_lt, c_le, c_gt, c_ge, c_is, c_isn, c_isb, c_isnb, isB, c_in, x_lst, x_tup, x_scr, it_lst, it_tup, it_scr, Bool.not_true, Bool.not_false, id_eq, blsOf, intsOf, strsOf, and_self, true_and, and_true, Nat.reduceMul, Nat.reducePow, Nat.reduceLeDiff, Int.reduceLT, Int.reduceLE, Int.reduceNeg, Int.reducePow, Int.reduceToNat, Int.reduceMul, Int.reduceAdd, Int.reduceSub, List.flatten_cons, List.flatten_nil, List.append_nil, line_nil, line_n, decide_true, decide_false, isCount]
def isLess (m : Int) : D → Bool
  | .int i => decide (0 ≤ i) && decide (i < m)
  | _ => false
theorem is_octet (k : Nat) {d : D} (hd : Sol d) : callK (prg rows) (k + 2) 1 [.dat d] = .ok (.d (.bl (isLess 256 d))) [.dat d] := by
  rw [callK_run p1]
  unfold runF c_is_octet
  rw [if_pos ⟨rfl, rfl⟩]
  have h := is_count k hd
  cases d with
  | int i =>
    by_cases hi : 0 ≤ i
    · simp only [runs_nil, runs_cons, run_asg, run_asgT, run_par, run_aug, run_app, run_seti, run_expr, run_iff, run_whl, run_fr, run_ret, run_retN, run_pass, run_brk, run_cont, ev_var, ev_cst, ev_tup, ev_lst, ev_bin, ev_neg, ev_cmp, ev_cmp2, ev_and, ev_or, ev_not, ev_ife, ev_ix, ev_sl, ev_call, ev_bi, ev_isi, ev_mt1, ev_lc, ev_ali, ev_mkT, ev_callT, run_tape, run_mpar, evM_nil, evM_cons, thaw_d, thaw_fr, thaw_pl, asgs, run_gset, run_gpop, glL, putG, setG, fin_next, fin_ret, fin_exc, fin_any, seq_any, evs_nil, evs_cons, evL_nil, evL_cons, evG_nil, evG_cons, evT_yes, evT_not, evT_and, evT_or, evT_ife, evT_val, evO_no, evO_so, evI_ex, evI_rng1, evI_rng2, evI_zip, evI_enm, evI_rng3, zip_tup, zip_lst, tru_bl, tru_int, R.bind_ok, FR.of_ok, seq_next, seq_ret, seq_brk, seq_cont, seq_exc, seq_ite, of_some, of_none, get_d, get_fr, get_pl, cont_dat, cont_own, cont_bor, cont_lck, frz_d, frz_fr, asg_d, asg_fr, argF, argT, gets_nil, gets_cons, ags_nil, ags_cons, ag_d, lents_d, lents_pl, lents_nil, backs_nil, backs_d, backs_pl, backW, lock_d, lock_fr, lock_pl, setW, tgD, tgsD, normW, finA, List.getElem?_cons_zero, List.getElem?_cons_succ, List.set_cons_zero, List.set_cons_succ, Option.bind_some, Option.bind_none, Option.map_some, Option.map_none, List.map_cons, List.map_nil, List.replicate, List.cons_append, List.nil_append, Bool.and_true, Bool.and_self, if_true, if_false, Bool.false_eq_true, reduceCtorEq, List.length_cons, List.length_nil, Nat.reduceAdd, Nat.reduceSub, List.all_cons, List.all_nil, List.getD_cons_zero, List.getD_cons_succ, plainVs, backV, wipeW, biD, len_lst, len_tup, len_scr, tupleD, listD, allD, intD, absD, isiD, isiO_non, isiO_bl, isiO_int, isiO_str, isiO_tup, isiO_lst, isiO_scr, len_gl, x_gl, isN, b_add, b_sub, b_mulr, b_mull, b_fdiv, b_mod, b_pow, b_shl, b_shr, b_band, b_bor, b_bxor, b_addt, b_addl, b_repl, c_eqi, c_eqs, c_eqb, c_nei, c_nes, c_lt, c_le, c_gt, c_ge, c_is, c_isn, c_isb, c_isnb, isB, c_in, x_lst, x_tup, x_scr, it_lst, it_tup, it_scr, Bool.not_true, Bool.not_false, id_eq, blsOf, intsOf, strsOf, and_self, true_and, and_true, Nat.reduceMul, Nat.reducePow, Nat.reduceLeDiff, Int.reduceLT, Int.reduceLE, Int.reduceNeg, Int.reducePow, Int.reduceToNat, Int.reduceMul, Int.reduceAdd, Int.reduceSub, List.flatten_cons, List.flatten_nil, List.append_nil, line_nil, line_n, decide_true, decide_false, callG_1 h, isCount, isLess, hi, decide_true, Bool.true_and]
    · simp only [runs_nil, runs_cons, run_asg, run_asgT, run_par, run_aug, run_app, run_seti, run_expr, run_iff, run_whl, run_fr, run_ret, run_retN, run_pass, run_brk, run_cont, ev_var, ev_cst, ev_tup, ev_lst, ev_bin, ev_neg, ev_cmp, ev_cmp2, ev_and, ev_or, ev_not, ev_ife, ev_ix, ev_sl, ev_call, ev_bi, ev_isi, ev_mt1, ev_lc, ev_ali, ev_mkT, ev_callT, run_tape, run_mpar, evM_nil, evM_cons, thaw_d, thaw_fr, thaw_pl, asgs, run_gset, run_gpop, glL, putG, setG, fin_next, fin_ret, fin_exc, fin_any, seq_any, evs_nil, evs_cons, evL_nil, evL_cons, evG_nil, evG_cons, evT_yes, evT_not, evT_and, evT_or, evT_ife, evT_val, evO_no, evO_so, evI_ex, evI_rng1, evI_rng2, evI_zip, evI_enm, evI_rng3, zip_tup, zip_lst, tru_bl, tru_int, R.bind_ok, FR.of_ok, seq_next, seq_ret, seq_brk, seq_cont, seq_exc, seq_ite, of_some, of_none, get_d, get_fr, get_pl, cont_dat, cont_own, cont_bor, cont_lck, frz_d, frz_fr, asg_d, asg_fr, argF, argT, gets_nil, gets_cons, ags_nil, ags_cons, ag_d, lents_d, lents_pl, lents_nil, backs_nil, backs_d, backs_pl, backW, lock_d, lock_fr, lock_pl, setW, tgD, tgsD, normW, finA, List.getElem?_cons_zero, List.getElem?_cons_succ, List.set_cons_zero, List.set_cons_succ, Option.bind_some, Option.bind_none, Option.map_some, Option.map_none, List.map_cons, List.map_nil, List.replicate, List.cons_append, List.nil_append, Bool.and_true, Bool.and_self, if_true, if_false, Bool.false_eq_true, reduceCtorEq, List.length_cons, List.length_nil, Nat.reduceAdd, Nat.reduceSub, List.all_cons, List.all_nil, List.getD_cons_zero, List.getD_cons_succ, plainVs, backV, wipeW, biD, len_lst, len_tup, len_scr, tupleD, listD, allD, intD, absD, isiD, isiO_non, isiO_bl, isiO_int, isiO_str, isiO_tup, isiO_lst, isiO_scr, len_gl, x_gl, isN, b_add, b_sub, b_mulr, b_mull, b_fdiv, b_mod, b_pow, b_shl, b_shr, b_band, b_bor, b_bxor, b_addt, b_addl, b_repl, c_eqi, c_eqs, c_eqb, c_nei, c_nes, c_lt, c_le, c_gt, c_ge, c_is, c_isn, c_isb, c_isnb, isB, c_in, x_lst, x_tup, x_scr, it_lst, it_tup, it_scr, Bool.not_true, Bool.not_false, id_eq, blsOf, intsOf, strsOf, and_self, true_and, and_true, Nat.reduceMul, Nat.reducePow, Nat.reduceLeDiff, Int.reduceLT, Int.reduceLE, Int.reduceNeg, Int.reducePow, Int.reduceToNat, Int.reduceMul, Int.reduceAdd, Int.reduceSub, List.flatten_cons, List.flatten_nil, List.append_nil, line_nil, line_n, decide_true, decide_false, callG_1 h, isCount, isLess, hi, decide_false, Bool.false_and]
  | _ => simp only [runs_nil, runs_cons, run_asg, run_asgT, run_par, run_aug, run_app, run_seti, run_expr, run_iff, run_whl, run_fr, run_ret, run_retN, run_pass, run_brk, run_cont, ev_var, ev_cst, ev_tup, ev_lst, ev_bin, ev_neg, ev_cmp, ev_cmp2, ev_and, ev_or, ev_not, ev_ife, ev_ix, ev_sl, ev_call, ev_bi, ev_isi, ev_mt1, ev_lc, ev_ali, ev_mkT, ev_callT, run_tape, run_mpar, evM_nil, evM_cons, thaw_d, thaw_fr, thaw_pl, asgs, run_gset, run_gpop, glL, putG, setG, fin_next, fin_ret, fin_exc, fin_any, seq_any, evs_nil, evs_cons, evL_nil, evL_cons, evG_nil, evG_cons, evT_yes, evT_not, evT_and, evT_or, evT_ife, evT_val, evO_no, evO_so, evI_ex, evI_rng1, evI_rng2, evI_zip, evI_enm, evI_rng3, zip_tup, zip_lst, tru_bl, tru_int, R.bind_ok, FR.of_ok, seq_next, seq_ret, seq_brk, seq_cont, seq_exc, seq_ite, of_some, of_none, get_d, get_fr, get_pl, cont_dat, cont_own, cont_bor, cont_lck, frz_d, frz_fr, asg_d, asg_fr, argF, argT, gets_nil, gets_cons, ags_nil, ags_cons, ag_d, lents_d, lents_pl, lents_nil, backs_nil, backs_d, backs_pl, backW, lock_d, lock_fr, lock_pl, setW, tgD, tgsD, normW, finA, List.getElem?_cons_zero, List.getElem?_cons_succ, List.set_cons_zero, List.set_cons_succ, Option.bind_some, Option.bind_none, Option.map_some, Option.map_none, List.map_cons, List.map_nil, List.replicate, List.cons_append, List.nil_append, Bool.and_true, Bool.and_self, if_true, if_false, Bool.false_eq_true, reduceCtorEq, List.length_cons, List.length_nil, Nat.reduceAdd, Nat.reduceSub, List.all_cons, List.all_nil, List.getD_cons_zero, List.getD_cons_succ, plainVs, backV, wipeW, biD, len_lst, len_tup, len_scr, tupleD, listD, allD, intD, absD, isiD, isiO_non, isiO_bl, isiO_int, isiO_str, isiO_tup, isiO_lst, isiO_scr, len_gl, x_gl, isN, b_add, b_sub, b_mulr, b_mull, b_fdiv, b_mod, b_pow, b_shl, b_shr, b_band, b_bor, b_bxor, b_addt, b_addl, b_repl, c_eqi, c_eqs, c_eqb, c_nei, c_nes, c_lt, c_le, c_gt, c_ge, c_is, c_isn, c_isb, c_isnb, isB, c_in, x_lst, x_tup, x_scr, it_lst, it_tup, it_scr, Bool.not_true, Bool.not_false, id_eq, blsOf, intsOf, strsOf, and_self, true_and, and_true, Nat.reduceMul, Nat.reducePow, Nat.reduceLeDiff, Int.reduceLT, Int.reduceLE, Int.reduceNeg, Int.reducePow, Int.reduceToNat, Int.reduceMul, Int.reduceAdd, Int.reduceSub, List.flatten_cons, List.flatten_nil, List.append_nil, line_nil, line_n, decide_true, decide_false, callG_1 h, isCount, isLess]
def areLess : D → Bool
  | .tup ds => ds.all (isLess 256)
  | _ => false
theorem are_octets (k : Nat) {d : D} (hs : Sol d) (hd : ∀ ds, d = .tup ds → ds.length ≤ Line ∧ ∀ x ∈ ds, Sol x) : callK (prg rows) (k + 3) 2 [.dat d] = .ok (.d (.bl (areLess d))) [.dat d] := by
  rw [callK_run p2]
  unfold runF c_are_octets
  rw [if_pos ⟨rfl, rfl⟩]
  cases d with
  | tup ds =>
    simp only [runs_nil, runs_cons, run_asg, run_asgT, run_par, run_aug, run_app, run_seti, run_expr, run_iff, run_whl, run_fr, run_ret, run_retN, run_pass, run_brk, run_cont, ev_var, ev_cst, ev_tup, ev_lst, ev_bin, ev_neg, ev_cmp, ev_cmp2, ev_and, ev_or, ev_not, ev_ife, ev_ix, ev_sl, ev_call, ev_bi, ev_isi, ev_mt1, ev_lc, ev_ali, ev_mkT, ev_callT, run_tape, run_mpar, evM_nil, evM_cons, thaw_d, thaw_fr, thaw_pl, asgs, run_gset, run_gpop, glL, putG, setG, fin_next, fin_ret, fin_exc, fin_any, seq_any, evs_nil, evs_cons, evL_nil, evL_cons, evG_nil, evG_cons, evT_yes, evT_not, evT_and, evT_or, evT_ife, evT_val, evO_no, evO_so, evI_ex, evI_rng1, evI_rng2, evI_zip, evI_enm, evI_rng3, zip_tup, zip_lst, tru_bl, tru_int, R.bind_ok, FR.of_ok, seq_next, seq_ret, seq_brk, seq_cont, seq_exc, seq_ite, of_some, of_none, get_d, get_fr, get_pl, cont_dat, cont_own, cont_bor, cont_lck, frz_d, frz_fr, asg_d, asg_fr, argF, argT, gets_nil, gets_cons, ags_nil, ags_cons, ag_d, lents_d, lents_pl, lents_nil, backs_nil, backs_d, backs_pl, backW, lock_d, lock_fr, lock_pl, setW, tgD, tgsD, normW, finA, List.getElem?_cons_zero, List.getElem?_cons_succ, List.set_cons_zero, List.set_cons_succ, Option.bind_some, Option.bind_none, Option.map_some, Option.map_none, List.map_cons, List.map_nil, List.replicate, List.cons_append, List.nil_append, Bool.and_true, Bool.and_self, if_true, if_false, Bool.false_eq_true, reduceCtorEq, List.length_cons, List.length_nil, Nat.reduceAdd, Nat.reduceSub, List.all_cons, List.all_nil, List.getD_cons_zero, List.getD_cons_succ, plainVs, backV, wipeW, biD, len_lst, len_tup, len_scr, tupleD, listD, allD, intD, absD, isiD, isiO_non, isiO_bl, isiO_int, isiO_str, isiO_tup, isiO_lst, isiO_scr, len_gl, x_gl, isN, b_add, b_sub, b_mulr, b_mull, b_fdiv, b_mod, b_pow, b_shl, b_shr, b_band, b_bor, b_bxor, b_addt, b_addl, b_repl, c_eqi, c_eqs, c_eqb, c_nei, c_nes, c_lt, c_le, c_gt, c_ge, c_is, c_isn, c_isb, c_isnb, isB, c_in, x_lst, x_tup, x_scr, it_lst, it_tup, it_scr, Bool.not_true, Bool.not_false, id_eq, blsOf, intsOf, strsOf, and_self, true_and, and_true, Nat.reduceMul, Nat.reducePow, Nat.reduceLeDiff, Int.reduceLT, Int.reduceLE, Int.reduceNeg, Int.reducePow, Int.reduceToNat, Int.reduceMul, Int.reduceAdd, Int.reduceSub, List.flatten_cons, List.flatten_nil, List.append_nil, line_nil, line_n, decide_true, decide_false]
    rw [lcRun_ok rfl (lcGo_all (fun x => .bl (isLess 256 x)) (fun x hx => by simp only [runs_nil, runs_cons, run_asg, run_asgT, run_par, run_aug, run_app, run_seti, run_expr, run_iff, run_whl, run_fr, run_ret, run_retN, run_pass, run_brk, run_cont, ev_var, ev_cst, ev_tup, ev_lst, ev_bin, ev_neg, ev_cmp, ev_cmp2, ev_and, ev_or, ev_not, ev_ife, ev_ix, ev_sl, ev_call, ev_bi, ev_isi, ev_mt1, ev_lc, ev_ali, ev_mkT, ev_callT, run_tape, run_mpar, evM_nil, evM_cons, thaw_d, thaw_fr, thaw_pl, asgs, run_gset, run_gpop, glL, putG, setG, fin_next, fin_ret, fin_exc, fin_any, seq_any, evs_nil, evs_cons, evL_nil, evL_cons, evG_nil, evG_cons, evT_yes, evT_not, evT_and, evT_or, evT_ife, evT_val, evO_no, evO_so, evI_ex, evI_rng1, evI_rng2, evI_zip, evI_enm, evI_rng3, zip_tup, zip_lst, tru_bl, tru_int, R.bind_ok, FR.of_ok, seq_next, seq_ret, seq_brk, seq_cont, seq_exc, seq_ite, of_some, of_none, get_d, get_fr, get_pl, cont_dat, cont_own, cont_bor, cont_lck, frz_d, frz_fr, asg_d, asg_fr, argF, argT, gets_nil, gets_cons, ags_nil, ags_cons, ag_d, lents_d, lents_pl, lents_nil, backs_nil, backs_d, backs_pl, backW, lock_d, lock_fr, lock_pl, setW, tgD, tgsD, normW, finA, List.getElem?_cons_zero, List.getElem?_cons_succ, List.set_cons_zero, List.set_cons_succ, Option.bind_some, Option.bind_none, Option.map_some, Option.map_none, List.map_cons, List.map_nil, List.replicate, List.cons_append, List.nil_append, Bool.and_true, Bool.and_self, if_true, if_false, Bool.false_eq_true, reduceCtorEq, List.length_cons, List.length_nil, Nat.reduceAdd, Nat.reduceSub, List.all_cons, List.all_nil, List.getD_cons_zero, List.getD_cons_succ, plainVs, backV, wipeW, biD, len_lst, len_tup, len_scr, tupleD, listD, allD, intD, absD, isiD, isiO_non, isiO_bl, isiO_int, isiO_str, isiO_tup, isiO_lst, isiO_scr, len_gl, x_gl, isN, b_add, b_sub, b_mulr, b_mull, b_fdiv, b_mod, b_pow, b_shl, b_shr, b_band, b_bor, b_bxor, b_addt, b_addl, b_repl, c_eqi, c_eqs, c_eqb, c_nei, c_nes, c_lt, c_le, c_gt, c_ge, c_is, c_isn, c_isb, c_isnb, isB, c_in, x_lst, x_tup, x_scr, it_lst, it_tup, it_scr, Bool.not_true, Bool.not_false, id_eq, blsOf, intsOf, strsOf, and_self, true_and, and_true, Nat.reduceMul, Nat.reducePow, Nat.reduceLeDiff, Int.reduceLT, Int.reduceLE, Int.reduceNeg, Int.reducePow, Int.reduceToNat, Int.reduceMul, Int.reduceAdd, Int.reduceSub, List.flatten_cons, List.flatten_nil, List.append_nil, line_nil, line_n, decide_true, decide_false, callG_1 (is_octet k ((hd ds rfl).2 x hx))]) (fun _ => rfl) (fun _ => rfl) (hd ds rfl).1)]
    simp only [runs_nil, runs_cons, run_asg, run_asgT, run_par, run_aug, run_app, run_seti, run_expr, run_iff, run_whl, run_fr, run_ret, run_retN, run_pass, run_brk, run_cont, ev_var, ev_cst, ev_tup, ev_lst, ev_bin, ev_neg, ev_cmp, ev_cmp2, ev_and, ev_or, ev_not, ev_ife, ev_ix, ev_sl, ev_call, ev_bi, ev_isi, ev_mt1, ev_lc, ev_ali, ev_mkT, ev_callT, run_tape, run_mpar, evM_nil, evM_cons, thaw_d, thaw_fr, thaw_pl, asgs, run_gset, run_gpop, glL, putG, setG, fin_next, fin_ret, fin_exc, fin_any, seq_any, evs_nil, evs_cons, evL_nil, evL_cons, evG_nil, evG_cons, evT_yes, evT_not, evT_and, evT_or, evT_ife, evT_val, evO_no, evO_so, evI_ex, evI_rng1, evI_rng2, evI_zip, evI_enm, evI_rng3, zip_tup, zip_lst, tru_bl, tru_int, R.bind_ok, FR.of_ok, seq_next, seq_ret, seq_brk, seq_cont, seq_exc, seq_ite, of_some, of_none, get_d, get_fr, get_pl, cont_dat, cont_own, cont_bor, cont_lck, frz_d, frz_fr, asg_d, asg_fr, argF, argT, gets_nil, gets_cons, ags_nil, ags_cons, ag_d, lents_d, lents_pl, lents_nil, backs_nil, backs_d, backs_pl, backW, lock_d, lock_fr, lock_pl, setW, tgD, tgsD, normW, finA, List.getElem?_cons_zero, List.getElem?_cons_succ, List.set_cons_zero, List.set_cons_succ, Option.bind_some, Option.bind_none, Option.map_some, Option.map_none, List.map_cons, List.map_nil, List.replicate, List.cons_append, List.nil_append, Bool.and_true, Bool.and_self, if_true, if_false, Bool.false_eq_true, reduceCtorEq, List.length_cons, List.length_nil, Nat.reduceAdd, Nat.reduceSub, List.all_cons, List.all_nil, List.getD_cons_zero, List.getD_cons_succ, plainVs, backV, wipeW, biD, len_lst, len_tup, len_scr, tupleD, listD, allD, intD, absD, isiD, isiO_non, isiO_bl, isiO_int, isiO_str, isiO_tup, isiO_lst, isiO_scr, len_gl, x_gl, isN, b_add, b_sub, b_mulr, b_mull, b_fdiv, b_mod, b_pow, b_shl, b_shr, b_band, b_bor, b_bxor, b_addt, b_addl, b_repl, c_eqi, c_eqs, c_eqb, c_nei, c_nes, c_lt, c_le, c_gt, c_ge, c_is, c_isn, c_isb, c_isnb, isB, c_in, x_lst, x_tup, x_scr, it_lst, it_tup, it_scr, Bool.not_true, Bool.not_false, id_eq, blsOf, intsOf, strsOf, and_self, true_and, and_true, Nat.reduceMul, Nat.reducePow, Nat.reduceLeDiff, Int.reduceLT, Int.reduceLE, Int.reduceNeg, Int.reducePow, Int.reduceToNat, Int.reduceMul, Int.reduceAdd, Int.reduceSub, List.flatten_cons, List.flatten_nil, List.append_nil, line_nil, line_n, decide_true, decide_false, blsOf_map, areLess, List.all_map]
    rfl
  | adr b => exact not_adr hs
  | gl b ds => exact not_gl hs
  | dic x => simp only [runs_nil, runs_cons, run_asg, run_asgT, run_par, run_aug, run_app, run_seti, run_expr, run_iff, run_whl, run_fr, run_ret, run_retN, run_pass, run_brk, run_cont, ev_var, ev_cst, ev_tup, ev_lst, ev_bin, ev_neg, ev_cmp, ev_cmp2, ev_and, ev_or, ev_not, ev_ife, ev_ix, ev_sl, ev_call, ev_bi, ev_isi, ev_mt1, ev_lc, ev_ali, ev_mkT, ev_callT, run_tape, run_mpar, evM_nil, evM_cons, thaw_d, thaw_fr, thaw_pl, asgs, run_gset, run_gpop, glL, putG, setG, fin_next, fin_ret, fin_exc, fin_any, seq_any, evs_nil, evs_cons, evL_nil, evL_cons, evG_nil, evG_cons, evT_yes, evT_not, evT_and, evT_or, evT_ife, evT_val, evO_no, evO_so, evI_ex, evI_rng1, evI_rng2, evI_zip, evI_enm, evI_rng3, zip_tup, zip_lst, tru_bl, tru_int, R.bind_ok, FR.of_ok, seq_next, seq_ret, seq_brk, seq_cont, seq_exc, seq_ite, of_some, of_none, get_d, get_fr, get_pl, cont_dat, cont_own, cont_bor, cont_lck, frz_d, frz_fr, asg_d, asg_fr, argF, argT, gets_nil, gets_cons, ags_nil, ags_cons, ag_d, lents_d, lents_pl, lents_nil, backs_nil, backs_d, backs_pl, backW, lock_d, lock_fr, lock_pl, setW, tgD, tgsD, normW, finA, List.getElem?_cons_zero, List.getElem?_cons_succ, List.set_cons_zero, List.set_cons_succ, Option.bind_some, Option.bind_none, Option.map_some, Option.map_none, List.map_cons, List.map_nil, List.replicate, List.cons_append, List.nil_append, Bool.and_true, Bool.and_self, if_true, if_false, Bool.false_eq_true, reduceCtorEq, List.length_cons, List.length_nil, Nat.reduceAdd, Nat.reduceSub, List.all_cons, List.all_nil, List.getD_cons_zero, List.getD_cons_succ, plainVs, backV, wipeW, biD, len_lst, len_tup, len_scr, tupleD, listD, allD, intD, absD, isiD, isiO_non, isiO_bl, isiO_int, isiO_str, isiO_tup, isiO_lst, isiO_scr, len_gl, x_gl, isN, b_add, b_sub, b_mulr, b_mull, b_fdiv, b_mod, b_pow, b_shl, b_shr, b_band, b_bor, b_bxor, b_addt, b_addl, b_repl, c_eqi, c_eqs, c_eqb, c_nei, c_nes, c_lt, c_le, c_gt, c_ge, c_is, c_isn, c_isb, c_isnb, isB, c_in, x_lst, x_tup, x_scr, it_lst, it_tup, it_scr, Bool.not_true, Bool.not_false, id_eq, blsOf, intsOf, strsOf, and_self, true_and, and_true, Nat.reduceMul, Nat.reducePow, Nat.reduceLeDiff, Int.reduceLT, Int.reduceLE, Int.reduceNeg, Int.reducePow, Int.reduceToNat, Int.reduceMul, Int.reduceAdd, Int.reduceSub, List.flatten_cons, List.flatten_nil, List.append_nil, line_nil, line_n, decide_true, decide_false, areLess, hs 3]
  | _ => simp only [runs_nil, runs_cons, run_asg, run_asgT, run_par, run_aug, run_app, run_seti, run_expr, run_iff, run_whl, run_fr, run_ret, run_retN, run_pass, run_brk, run_cont, ev_var, ev_cst, ev_tup, ev_lst, ev_bin, ev_neg, ev_cmp, ev_cmp2, ev_and, ev_or, ev_not, ev_ife, ev_ix, ev_sl, ev_call, ev_bi, ev_isi, ev_mt1, ev_lc, ev_ali, ev_mkT, ev_callT, run_tape, run_mpar, evM_nil, evM_cons, thaw_d, thaw_fr, thaw_pl, asgs, run_gset, run_gpop, glL, putG, setG, fin_next, fin_ret, fin_exc, fin_any, seq_any, evs_nil, evs_cons, evL_nil, evL_cons, evG_nil, evG_cons, evT_yes, evT_not, evT_and, evT_or, evT_ife, evT_val, evO_no, evO_so, evI_ex, evI_rng1, evI_rng2, evI_zip, evI_enm, evI_rng3, zip_tup, zip_lst, tru_bl, tru_int, R.bind_ok, FR.of_ok, seq_next, seq_ret, seq_brk, seq_cont, seq_exc, seq_ite, of_some, of_none, get_d, get_fr, get_pl, cont_dat, cont_own, cont_bor, cont_lck, frz_d, frz_fr, asg_d, asg_fr, argF, argT, gets_nil, gets_cons, ags_nil, ags_cons, ag_d, lents_d, lents_pl, lents_nil, backs_nil, backs_d, backs_pl, backW, lock_d, lock_fr, lock_pl, setW, tgD, tgsD, normW, finA, List.getElem?_cons_zero, List.getElem?_cons_succ, List.set_cons_zero, List.set_cons_succ, Option.bind_some, Option.bind_none, Option.map_some, Option.map_none, List.map_cons, List.map_nil, List.replicate, List.cons_append, List.nil_append, Bool.and_true, Bool.and_self, if_true, if_false, Bool.false_eq_true, reduceCtorEq, List.length_cons, List.length_nil, Nat.reduceAdd, Nat.reduceSub, List.all_cons, List.all_nil, List.getD_cons_zero, List.getD_cons_succ, plainVs, backV, wipeW, biD, len_lst, len_tup, len_scr, tupleD, listD, allD, intD, absD, isiD, isiO_non, isiO_bl, isiO_int, isiO_str, isiO_tup, isiO_lst, isiO_scr, len_gl, x_gl, isN, b_add, b_sub, b_mulr, b_mull, b_fdiv, b_mod, b_pow, b_shl, b_shr, b_band, b_bor, b_bxor, b_addt, b_addl, b_repl, c_eqi, c_eqs, c_eqb, c_nei, c_nes, c_lt, c_le, c_gt, c_ge, c_is, c_isn, c_isb, c_isnb, isB, c_in, x_lst, x_tup, x_scr, it_lst, it_tup, it_scr, Bool.not_true, Bool.not_false, id_eq, blsOf, intsOf, strsOf, and_self, true_and, and_true, Nat.reduceMul, Nat.reducePow, Nat.reduceLeDiff, Int.reduceLT, Int.reduceLE, Int.reduceNeg, Int.reducePow, Int.reduceToNat, Int.reduceMul, Int.reduceAdd, Int.reduceSub, List.flatten_cons, List.flatten_nil, List.append_nil, line_nil, line_n, decide_true, decide_false, areLess]
theorem octet_pairs (k : Nat) (n : Int) : callK (prg rows) (k + 1) 3 [.dat (.int n), .dat (.int 2)] = .ok (.d (.tup [.int (n / 256 % 256), .int (n % 256)])) [.dat (.int n), .dat (.int 2)] := by
  rw [callK_run p3]
  unfold runF c_octet_pairs
  rw [if_pos ⟨rfl, rfl⟩]
  have hr : rngOk 0 2 = true := by decide
  let f : D → D := fun d => match d with
    | .int j => .int (n / 2 ^ (8 * (2 - 1 - j)).toNat % 256)
    | d => d
  simp only [runs_nil, runs_cons, run_asg, run_asgT, run_par, run_aug, run_app, run_seti, run_expr, run_iff, run_whl, run_fr, run_ret, run_retN, run_pass, run_brk, run_cont, ev_var, ev_cst, ev_tup, ev_lst, ev_bin, ev_neg, ev_cmp, ev_cmp2, ev_and, ev_or, ev_not, ev_ife, ev_ix, ev_sl, ev_call, ev_bi, ev_isi, ev_mt1, ev_lc, ev_ali, ev_mkT, ev_callT, run_tape, run_mpar, evM_nil, evM_cons, thaw_d, thaw_fr, thaw_pl, asgs, run_gset, run_gpop, glL, putG, setG, fin_next, fin_ret, fin_exc, fin_any, seq_any, evs_nil, evs_cons, evL_nil, evL_cons, evG_nil, evG_cons, evT_yes, evT_not, evT_and, evT_or, evT_ife, evT_val, evO_no, evO_so, evI_ex, evI_rng1, evI_rng2, evI_zip, evI_enm, evI_rng3, zip_tup, zip_lst, tru_bl, tru_int, R.bind_ok, FR.of_ok, seq_next, seq_ret, seq_brk, seq_cont, seq_exc, seq_ite, of_some, of_none, get_d, get_fr, get_pl, cont_dat, cont_own, cont_bor, cont_lck, frz_d, frz_fr, asg_d, asg_fr, argF, argT, gets_nil, gets_cons, ags_nil, ags_cons, ag_d, lents_d, lents_pl, lents_nil, backs_nil, backs_d, backs_pl, backW, lock_d, lock_fr, lock_pl, setW, tgD, tgsD, normW, finA, List.getElem?_cons_zero, List.getElem?_cons_succ, List.set_cons_zero, List.set_cons_succ, Option.bind_some, Option.bind_none, Option.map_some, Option.map_none, List.map_cons, List.map_nil, List.replicate, List.cons_append, List.nil_append, Bool.and_true, Bool.and_self, if_true, if_false, Bool.false_eq_true, reduceCtorEq, List.length_cons, List.length_nil, Nat.reduceAdd, Nat.reduceSub, List.all_cons, List.all_nil, List.getD_cons_zero, List.getD_cons_succ, plainVs, backV, wipeW, biD, len_lst, len_tup, len_scr, tupleD, listD, allD, intD, absD, isiD, isiO_non, isiO_bl, isiO_int, isiO_str, isiO_tup, isiO_lst, isiO_scr, len_gl, x_gl, isN, b_add, b_sub, b_mulr, b_mull, b_fdiv, b_mod, b_pow, b_shl, b_shr, b_band, b_bor, b_bxor, b_addt, b_addl, b_repl, c_eqi, c_eqs, c_eqb, c_nei, c_nes, c_lt, c_le, c_gt, c_ge, c_is, c_isn, c_isb, c_isnb, isB, c_in, x_lst, x_tup, x_scr, it_lst, it_tup, it_scr, Bool.not_true, Bool.not_false, id_eq, blsOf, intsOf, strsOf, and_self, true_and, and_true, Nat.reduceMul, Nat.reducePow, Nat.reduceLeDiff, Int.reduceLT, Int.reduceLE, Int.reduceNeg, Int.reducePow, Int.reduceToNat, Int.reduceMul, Int.reduceAdd, Int.reduceSub, List.flatten_cons, List.flatten_nil, List.append_nil, line_nil, line_n, decide_true, decide_false, hr]
  rw [lcRun_ok rfl (lcGo_all f (fun x hx => ?_) (fun _ => rfl) (fun _ => rfl) (rng_line (by omega)))]
  · simp only [runs_nil, runs_cons, run_asg, run_asgT, run_par, run_aug, run_app, run_seti, run_expr, run_iff, run_whl, run_fr, run_ret, run_retN, run_pass, run_brk, run_cont, ev_var, ev_cst, ev_tup, ev_lst, ev_bin, ev_neg, ev_cmp, ev_cmp2, ev_and, ev_or, ev_not, ev_ife, ev_ix, ev_sl, ev_call, ev_bi, ev_isi, ev_mt1, ev_lc, ev_ali, ev_mkT, ev_callT, run_tape, run_mpar, evM_nil, evM_cons, thaw_d, thaw_fr, thaw_pl, asgs, run_gset, run_gpop, glL, putG, setG, fin_next, fin_ret, fin_exc, fin_any, seq_any, evs_nil, evs_cons, evL_nil, evL_cons, evG_nil, evG_cons, evT_yes, evT_not, evT_and, evT_or, evT_ife, evT_val, evO_no, evO_so, evI_ex, evI_rng1, evI_rng2, evI_zip, evI_enm, evI_rng3, zip_tup, zip_lst, tru_bl, tru_int, R.bind_ok, FR.of_ok, seq_next, seq_ret, seq_brk, seq_cont, seq_exc, seq_ite, of_some, of_none, get_d, get_fr, get_pl, cont_dat, cont_own, cont_bor, cont_lck, frz_d, frz_fr, asg_d, asg_fr, argF, argT, gets_nil, gets_cons, ags_nil, ags_cons, ag_d, lents_d, lents_pl, lents_nil, backs_nil, backs_d, backs_pl, backW, lock_d, lock_fr, lock_pl, setW, tgD, tgsD, normW, finA, List.getElem?_cons_zero, List.getElem?_cons_succ, List.set_cons_zero, List.set_cons_succ, Option.bind_some, Option.bind_none, Option.map_some, Option.map_none, List.map_cons, List.map_nil, List.replicate, List.cons_append, List.nil_append, Bool.and_true, Bool.and_self, if_true, if_false, Bool.false_eq_true, reduceCtorEq, List.length_cons, List.length_nil, Nat.reduceAdd, Nat.reduceSub, List.all_cons, List.all_nil, List.getD_cons_zero, List.getD_cons_succ, plainVs, backV, wipeW, biD, len_lst, len_tup, len_scr, tupleD, listD, allD, intD, absD, isiD, isiO_non, isiO_bl, isiO_int, isiO_str, isiO_tup, isiO_lst, isiO_scr, len_gl, x_gl, isN, b_add, b_sub, b_mulr, b_mull, b_fdiv, b_mod, b_pow, b_shl, b_shr, b_band, b_bor, b_bxor, b_addt, b_addl, b_repl, c_eqi, c_eqs, c_eqb, c_nei, c_nes, c_lt, c_le, c_gt, c_ge, c_is, c_isn, c_isb, c_isnb, isB, c_in, x_lst, x_tup, x_scr, it_lst, it_tup, it_scr, Bool.not_true, Bool.not_false, id_eq, blsOf, intsOf, strsOf, and_self, true_and, and_true, Nat.reduceMul, Nat.reducePow, Nat.reduceLeDiff, Int.reduceLT, Int.reduceLE, Int.reduceNeg, Int.reducePow, Int.reduceToNat, Int.reduceMul, Int.reduceAdd, Int.reduceSub, List.flatten_cons, List.flatten_nil, List.append_nil, line_nil, line_n, decide_true, decide_false]
    have e : (rngD 0 2).map f = [.int (n / 256 % 256), .int (n / 1 % 256)] := rfl
    rw [e, Int.ediv_one]
  · obtain ⟨j, rfl, h2, h3⟩ := rng_mem hx
    have h4 : 0 ≤ 8 * (1 - j) := by omega
    simp only [runs_nil, runs_cons, run_asg, run_asgT, run_par, run_aug, run_app, run_seti, run_expr, run_iff, run_whl, run_fr, run_ret, run_retN, run_pass, run_brk, run_cont, ev_var, ev_cst, ev_tup, ev_lst, ev_bin, ev_neg, ev_cmp, ev_cmp2, ev_and, ev_or, ev_not, ev_ife, ev_ix, ev_sl, ev_call, ev_bi, ev_isi, ev_mt1, ev_lc, ev_ali, ev_mkT, ev_callT, run_tape, run_mpar, evM_nil, evM_cons, thaw_d, thaw_fr, thaw_pl, asgs, run_gset, run_gpop, glL, putG, setG, fin_next, fin_ret, fin_exc, fin_any, seq_any, evs_nil, evs_cons, evL_nil, evL_cons, evG_nil, evG_cons, evT_yes, evT_not, evT_and, evT_or, evT_ife, evT_val, evO_no, evO_so, evI_ex, evI_rng1, evI_rng2, evI_zip, evI_enm, evI_rng3, zip_tup, zip_lst, tru_bl, tru_int, R.bind_ok, FR.of_ok, seq_next, seq_ret, seq_brk, seq_cont, seq_exc, seq_ite, of_some, of_none, get_d, get_fr, get_pl, cont_dat, cont_own, cont_bor, cont_lck, frz_d, frz_fr, asg_d, asg_fr, argF, argT, gets_nil, gets_cons, ags_nil, ags_cons, ag_d, lents_d, lents_pl, lents_nil, backs_nil, backs_d, backs_pl, backW, lock_d, lock_fr, lock_pl, setW, tgD, tgsD, normW, finA, List.getElem?_cons_zero, List.getElem?_cons_succ, List.set_cons_zero, List.set_cons_succ, Option.bind_some, Option.bind_none, Option.map_some, Option.map_none, List.map_cons, List.map_nil, List.replicate, List.cons_append, List.nil_append, Bool.and_true, Bool.and_self, if_true, if_false, Bool.false_eq_true, reduceCtorEq, List.length_cons, List.length_nil, Nat.reduceAdd, Nat.reduceSub, List.all_cons, List.all_nil, List.getD_cons_zero, List.getD_cons_succ, plainVs, backV, wipeW, biD, len_lst, len_tup, len_scr, tupleD, listD, allD, intD, absD, isiD, isiO_non, isiO_bl, isiO_int, isiO_str, isiO_tup, isiO_lst, isiO_scr, len_gl, x_gl, isN, b_add, b_sub, b_mulr, b_mull, b_fdiv, b_mod, b_pow, b_shl, b_shr, b_band, b_bor, b_bxor, b_addt, b_addl, b_repl, c_eqi, c_eqs, c_eqb, c_nei, c_nes, c_lt, c_le, c_gt, c_ge, c_is, c_isn, c_isb, c_isnb, isB, c_in, x_lst, x_tup, x_scr, it_lst, it_tup, it_scr, Bool.not_true, Bool.not_false, id_eq, blsOf, intsOf, strsOf, and_self, true_and, and_true, Nat.reduceMul, Nat.reducePow, Nat.reduceLeDiff, Int.reduceLT, Int.reduceLE, Int.reduceNeg, Int.reducePow, Int.reduceToNat, Int.reduceMul, Int.reduceAdd, Int.reduceSub, List.flatten_cons, List.flatten_nil, List.append_nil, line_nil, line_n, decide_true, decide_false, h4, f, PyProof.Rows.bitAnd_m8]
theorem number_of (k : Nat) (a b : Int) : callK (prg rows) (k + 1) 4 [.dat (.tup [.int a, .int b])] = .ok (.d (.int (256 * (256 * 0 + a) + b))) [.dat (.tup [.int a, .int b])] := by kernel_rfl
def hwB (m : Int) : D → Bool
  | .int i => decide (1 ≤ i) && decide (i ≤ m)
  | _ => false
theorem is_hardware (k : Nat) {d : D} (hd : Sol d) : callK (prg rows) (k + 2) 8 [.dat d] = .ok (.d (.bl (hwB 200 d))) [.dat d] := by
  rw [callK_run p8]
  unfold runF c_is_hardware
  rw [if_pos ⟨rfl, rfl⟩]
  have h := is_count k hd
  cases d with
  | int i =>
    by_cases hi : 0 ≤ i
    · by_cases h1 : 1 ≤ i
      · simp only [runs_nil, runs_cons, run_asg, run_asgT, run_par, run_aug, run_app, run_seti, run_expr, run_iff, run_whl, run_fr, run_ret, run_retN, run_pass, run_brk, run_cont, ev_var, ev_cst, ev_tup, ev_lst, ev_bin, ev_neg, ev_cmp, ev_cmp2, ev_and, ev_or, ev_not, ev_ife, ev_ix, ev_sl, ev_call, ev_bi, ev_isi, ev_mt1, ev_lc, ev_ali, ev_mkT, ev_callT, run_tape, run_mpar, evM_nil, evM_cons, thaw_d, thaw_fr, thaw_pl, asgs, run_gset, run_gpop, glL, putG, setG, fin_next, fin_ret, fin_exc, fin_any, seq_any, evs_nil, evs_cons, evL_nil, evL_cons, evG_nil, evG_cons, evT_yes, evT_not, evT_and, evT_or, evT_ife, evT_val, evO_no, evO_so, evI_ex, evI_rng1, evI_rng2, evI_zip, evI_enm, evI_rng3, zip_tup, zip_lst, tru_bl, tru_int, R.bind_ok, FR.of_ok, seq_next, seq_ret, seq_brk, seq_cont, seq_exc, seq_ite, of_some, of_none, get_d, get_fr, get_pl, cont_dat, cont_own, cont_bor, cont_lck, frz_d, frz_fr, asg_d, asg_fr, argF, argT, gets_nil, gets_cons, ags_nil, ags_cons, ag_d, lents_d, lents_pl, lents_nil, backs_nil, backs_d, backs_pl, backW, lock_d, lock_fr, lock_pl, setW, tgD, tgsD, normW, finA, List.getElem?_cons_zero, List.getElem?_cons_succ, List.set_cons_zero, List.set_cons_succ, Option.bind_some, Option.bind_none, Option.map_some, Option.map_none, List.map_cons, List.map_nil, List.replicate, List.cons_append, List.nil_append, Bool.and_true, Bool.and_self, if_true, if_false, Bool.false_eq_true, reduceCtorEq, List.length_cons, List.length_nil, Nat.reduceAdd, Nat.reduceSub, List.all_cons, List.all_nil, List.getD_cons_zero, List.getD_cons_succ, plainVs, backV, wipeW, biD, len_lst, len_tup, len_scr, tupleD, listD, allD, intD, absD, isiD, isiO_non, isiO_bl, isiO_int, isiO_str, isiO_tup, isiO_lst, isiO_scr, len_gl, x_gl, isN, b_add, b_sub, b_mulr, b_mull, b_fdiv, b_mod, b_pow, b_shl, b_shr, b_band, b_bor, b_bxor, b_addt, b_addl, b_repl, c_eqi, c_eqs, c_eqb, c_nei, c_nes, c_lt, c_le, c_gt, c_ge, c_is, c_isn, c_isb, c_isnb, isB, c_in, x_lst, x_tup, x_scr, it_lst, it_tup, it_scr, Bool.not_true, Bool.not_false, id_eq, blsOf, intsOf, strsOf, and_self, true_and, and_true, Nat.reduceMul, Nat.reducePow, Nat.reduceLeDiff, Int.reduceLT, Int.reduceLE, Int.reduceNeg, Int.reducePow, Int.reduceToNat, Int.reduceMul, Int.reduceAdd, Int.reduceSub, List.flatten_cons, List.flatten_nil, List.append_nil, line_nil, line_n, decide_true, decide_false, callG_1 h, isCount, hwB, hi, h1, decide_true, Bool.true_and]
      · simp only [runs_nil, runs_cons, run_asg, run_asgT, run_par, run_aug, run_app, run_seti, run_expr, run_iff, run_whl, run_fr, run_ret, run_retN, run_pass, run_brk, run_cont, ev_var, ev_cst, ev_tup, ev_lst, ev_bin, ev_neg, ev_cmp, ev_cmp2, ev_and, ev_or, ev_not, ev_ife, ev_ix, ev_sl, ev_call, ev_bi, ev_isi, ev_mt1, ev_lc, ev_ali, ev_mkT, ev_callT, run_tape, run_mpar, evM_nil, evM_cons, thaw_d, thaw_fr, thaw_pl, asgs, run_gset, run_gpop, glL, putG, setG, fin_next, fin_ret, fin_exc, fin_any, seq_any, evs_nil, evs_cons, evL_nil, evL_cons, evG_nil, evG_cons, evT_yes, evT_not, evT_and, evT_or, evT_ife, evT_val, evO_no, evO_so, evI_ex, evI_rng1, evI_rng2, evI_zip, evI_enm, evI_rng3, zip_tup, zip_lst, tru_bl, tru_int, R.bind_ok, FR.of_ok, seq_next, seq_ret, seq_brk, seq_cont, seq_exc, seq_ite, of_some, of_none, get_d, get_fr, get_pl, cont_dat, cont_own, cont_bor, cont_lck, frz_d, frz_fr, asg_d, asg_fr, argF, argT, gets_nil, gets_cons, ags_nil, ags_cons, ag_d, lents_d, lents_pl, lents_nil, backs_nil, backs_d, backs_pl, backW, lock_d, lock_fr, lock_pl, setW, tgD, tgsD, normW, finA, List.getElem?_cons_zero, List.getElem?_cons_succ, List.set_cons_zero, List.set_cons_succ, Option.bind_some, Option.bind_none, Option.map_some, Option.map_none, List.map_cons, List.map_nil, List.replicate, List.cons_append, List.nil_append, Bool.and_true, Bool.and_self, if_true, if_false, Bool.false_eq_true, reduceCtorEq, List.length_cons, List.length_nil, Nat.reduceAdd, Nat.reduceSub, List.all_cons, List.all_nil, List.getD_cons_zero, List.getD_cons_succ, plainVs, backV, wipeW, biD, len_lst, len_tup, len_scr, tupleD, listD, allD, intD, absD, isiD, isiO_non, isiO_bl, isiO_int, isiO_str, isiO_tup, isiO_lst, isiO_scr, len_gl, x_gl, isN, b_add, b_sub, b_mulr, b_mull, b_fdiv, b_mod, b_pow, b_shl, b_shr, b_band, b_bor, b_bxor, b_addt, b_addl, b_repl, c_eqi, c_eqs, c_eqb, c_nei, c_nes, c_lt, c_le, c_gt, c_ge, c_is, c_isn, c_isb, c_isnb, isB, c_in, x_lst, x_tup, x_scr, it_lst, it_tup, it_scr, Bool.not_true, Bool.not_false, id_eq, blsOf, intsOf, strsOf, and_self, true_and, and_true, Nat.reduceMul, Nat.reducePow, Nat.reduceLeDiff, Int.reduceLT, Int.reduceLE, Int.reduceNeg, Int.reducePow, Int.reduceToNat, Int.reduceMul, Int.reduceAdd, Int.reduceSub, List.flatten_cons, List.flatten_nil, List.append_nil, line_nil, line_n, decide_true, decide_false, callG_1 h, isCount, hwB, hi, h1, decide_true, decide_false, Bool.false_and]
    · have h1 : ¬ 1 ≤ i := by omega
      simp only [runs_nil, runs_cons, run_asg, run_asgT, run_par, run_aug, run_app, run_seti, run_expr, run_iff, run_whl, run_fr, run_ret, run_retN, run_pass, run_brk, run_cont, ev_var, ev_cst, ev_tup, ev_lst, ev_bin, ev_neg, ev_cmp, ev_cmp2, ev_and, ev_or, ev_not, ev_ife, ev_ix, ev_sl, ev_call, ev_bi, ev_isi, ev_mt1, ev_lc, ev_ali, ev_mkT, ev_callT, run_tape, run_mpar, evM_nil, evM_cons, thaw_d, thaw_fr, thaw_pl, asgs, run_gset, run_gpop, glL, putG, setG, fin_next, fin_ret, fin_exc, fin_any, seq_any, evs_nil, evs_cons, evL_nil, evL_cons, evG_nil, evG_cons, evT_yes, evT_not, evT_and, evT_or, evT_ife, evT_val, evO_no, evO_so, evI_ex, evI_rng1, evI_rng2, evI_zip, evI_enm, evI_rng3, zip_tup, zip_lst, tru_bl, tru_int, R.bind_ok, FR.of_ok, seq_next, seq_ret, seq_brk, seq_cont, seq_exc, seq_ite, of_some, of_none, get_d, get_fr, get_pl, cont_dat, cont_own, cont_bor, cont_lck, frz_d, frz_fr, asg_d, asg_fr, argF, argT, gets_nil, gets_cons, ags_nil, ags_cons, ag_d, lents_d, lents_pl, lents_nil, backs_nil, backs_d, backs_pl, backW, lock_d, lock_fr, lock_pl, setW, tgD, tgsD, normW, finA, List.getElem?_cons_zero, List.getElem?_cons_succ, List.set_cons_zero, List.set_cons_succ, Option.bind_some, Option.bind_none, Option.map_some, Option.map_none, List.map_cons, List.map_nil, List.replicate, List.cons_append, List.nil_append, Bool.and_true, Bool.and_self, if_true, if_false, Bool.false_eq_true, reduceCtorEq, List.length_cons, List.length_nil, Nat.reduceAdd, Nat.reduceSub, List.all_cons, List.all_nil, List.getD_cons_zero, List.getD_cons_succ, plainVs, backV, wipeW, biD, len_lst, len_tup, len_scr, tupleD, listD, allD, intD, absD, isiD, isiO_non, isiO_bl, isiO_int, isiO_str, isiO_tup, isiO_lst, isiO_scr, len_gl, x_gl, isN, b_add, b_sub, b_mulr, b_mull, b_fdiv, b_mod, b_pow, b_shl, b_shr, b_band, b_bor, b_bxor, b_addt, b_addl, b_repl, c_eqi, c_eqs, c_eqb, c_nei, c_nes, c_lt, c_le, c_gt, c_ge, c_is, c_isn, c_isb, c_isnb, isB, c_in, x_lst, x_tup, x_scr, it_lst, it_tup, it_scr, Bool.not_true, Bool.not_false, id_eq, blsOf, intsOf, strsOf, and_self, true_and, and_true, Nat.reduceMul, Nat.reducePow, Nat.reduceLeDiff, Int.reduceLT, Int.reduceLE, Int.reduceNeg, Int.reducePow, Int.reduceToNat, Int.reduceMul, Int.reduceAdd, Int.reduceSub, List.flatten_cons, List.flatten_nil, List.append_nil, line_nil, line_n, decide_true, decide_false, callG_1 h, isCount, hwB, hi, h1, decide_false, Bool.false_and]
  | _ => simp only [runs_nil, runs_cons, run_asg, run_asgT, run_par, run_aug, run_app, run_seti, run_expr, run_iff, run_whl, run_fr, run_ret, run_retN, run_pass, run_brk, run_cont, ev_var, ev_cst, ev_tup, ev_lst, ev_bin, ev_neg, ev_cmp, ev_cmp2, ev_and, ev_or, ev_not, ev_ife, ev_ix, ev_sl, ev_call, ev_bi, ev_isi, ev_mt1, ev_lc, ev_ali, ev_mkT, ev_callT, run_tape, run_mpar, evM_nil, evM_cons, thaw_d, thaw_fr, thaw_pl, asgs, run_gset, run_gpop, glL, putG, setG, fin_next, fin_ret, fin_exc, fin_any, seq_any, evs_nil, evs_cons, evL_nil, evL_cons, evG_nil, evG_cons, evT_yes, evT_not, evT_and, evT_or, evT_ife, evT_val, evO_no, evO_so, evI_ex, evI_rng1, evI_rng2, evI_zip, evI_enm, evI_rng3, zip_tup, zip_lst, tru_bl, tru_int, R.bind_ok, FR.of_ok, seq_next, seq_ret, seq_brk, seq_cont, seq_exc, seq_ite, of_some, of_none, get_d, get_fr, get_pl, cont_dat, cont_own, cont_bor, cont_lck, frz_d, frz_fr, asg_d, asg_fr, argF, argT, gets_nil, gets_cons, ags_nil, ags_cons, ag_d, lents_d, lents_pl, lents_nil, backs_nil, backs_d, backs_pl, backW, lock_d, lock_fr, lock_pl, setW, tgD, tgsD, normW, finA, List.getElem?_cons_zero, List.getElem?_cons_succ, List.set_cons_zero, List.set_cons_succ, Option.bind_some, Option.bind_none, Option.map_some, Option.map_none, List.map_cons, List.map_nil, List.replicate, List.cons_append, List.nil_append, Bool.and_true, Bool.and_self, if_true, if_false, Bool.false_eq_true, reduceCtorEq, List.length_cons, List.length_nil, Nat.reduceAdd, Nat.reduceSub, List.all_cons, List.all_nil, List.getD_cons_zero, List.getD_cons_succ, plainVs, backV, wipeW, biD, len_lst, len_tup, len_scr, tupleD, listD, allD, intD, absD, isiD, isiO_non, isiO_bl, isiO_int, isiO_str, isiO_tup, isiO_lst, isiO_scr, len_gl, x_gl, isN, b_add, b_sub, b_mulr, b_mull, b_fdiv, b_mod, b_pow, b_shl, b_shr, b_band, b_bor, b_bxor, b_addt, b_addl, b_repl, c_eqi, c_eqs, c_eqb, c_nei, c_nes, c_lt, c_le, c_gt, c_ge, c_is, c_isn, c_isb, c_isnb, isB, c_in, x_lst, x_tup, x_scr, it_lst, it_tup, it_scr, Bool.not_true, Bool.not_false, id_eq, blsOf, intsOf, strsOf, and_self, true_and, and_true, Nat.reduceMul, Nat.reducePow, Nat.reduceLeDiff, Int.reduceLT, Int.reduceLE, Int.reduceNeg, Int.reducePow, Int.reduceToNat, Int.reduceMul, Int.reduceAdd, Int.reduceSub, List.flatten_cons, List.flatten_nil, List.append_nil, line_nil, line_n, decide_true, decide_false, callG_1 h, isCount, hwB]
theorem is_boot (k : Nat) {d : D} (hd : Sol d) : callK (prg rows) (k + 2) 9 [.dat d] = .ok (.d (.bl (hwB 201 d))) [.dat d] := by
  rw [callK_run p9]
  unfold runF c_is_boot
  rw [if_pos ⟨rfl, rfl⟩]
  have h := is_count k hd
  cases d with
  | int i =>
    by_cases hi : 0 ≤ i
    · by_cases h1 : 1 ≤ i
      · simp only [runs_nil, runs_cons, run_asg, run_asgT, run_par, run_aug, run_app, run_seti, run_expr, run_iff, run_whl, run_fr, run_ret, run_retN, run_pass, run_brk, run_cont, ev_var, ev_cst, ev_tup, ev_lst, ev_bin, ev_neg, ev_cmp, ev_cmp2, ev_and, ev_or, ev_not, ev_ife, ev_ix, ev_sl, ev_call, ev_bi, ev_isi, ev_mt1, ev_lc, ev_ali, ev_mkT, ev_callT, run_tape, run_mpar, evM_nil, evM_cons, thaw_d, thaw_fr, thaw_pl, asgs, run_gset, run_gpop, glL, putG, setG, fin_next, fin_ret, fin_exc, fin_any, seq_any, evs_nil, evs_cons, evL_nil, evL_cons, evG_nil, evG_cons, evT_yes, evT_not, evT_and, evT_or, evT_ife, evT_val, evO_no, evO_so, evI_ex, evI_rng1, evI_rng2, evI_zip, evI_enm, evI_rng3, zip_tup, zip_lst, tru_bl, tru_int, R.bind_ok, FR.of_ok, seq_next, seq_ret, seq_brk, seq_cont, seq_exc, seq_ite, of_some, of_none, get_d, get_fr, get_pl, cont_dat, cont_own, cont_bor, cont_lck, frz_d, frz_fr, asg_d, asg_fr, argF, argT, gets_nil, gets_cons, ags_nil, ags_cons, ag_d, lents_d, lents_pl, lents_nil, backs_nil, backs_d, backs_pl, backW, lock_d, lock_fr, lock_pl, setW, tgD, tgsD, normW, finA, List.getElem?_cons_zero, List.getElem?_cons_succ, List.set_cons_zero, List.set_cons_succ, Option.bind_some, Option.bind_none, Option.map_some, Option.map_none, List.map_cons, List.map_nil, List.replicate, List.cons_append, List.nil_append, Bool.and_true, Bool.and_self, if_true, if_false, Bool.false_eq_true, reduceCtorEq, List.length_cons, List.length_nil, Nat.reduceAdd, Nat.reduceSub, List.all_cons, List.all_nil, List.getD_cons_zero, List.getD_cons_succ, plainVs, backV, wipeW, biD, len_lst, len_tup, len_scr, tupleD, listD, allD, intD, absD, isiD, isiO_non, isiO_bl, isiO_int, isiO_str, isiO_tup, isiO_lst, isiO_scr, len_gl, x_gl, isN, b_add, b_sub, b_mulr, b_mull, b_fdiv, b_mod, b_pow, b_shl, b_shr, b_band, b_bor, b_bxor, b_addt, b_addl, b_repl, c_eqi, c_eqs, c_eqb, c_nei, c_nes, c_lt, c_le, c_gt, c_ge, c_is, c_isn, c_isb, c_isnb, isB, c_in, x_lst, x_tup, x_scr, it_lst, it_tup, it_scr, Bool.not_true, Bool.not_false, id_eq, blsOf, intsOf, strsOf, and_self, true_and, and_true, Nat.reduceMul, Nat.reducePow, Nat.reduceLeDiff, Int.reduceLT, Int.reduceLE, Int.reduceNeg, Int.reducePow, Int.reduceToNat, Int.reduceMul, Int.reduceAdd, Int.reduceSub, List.flatten_cons, List.flatten_nil, List.append_nil, line_nil, line_n, decide_true, decide_false, callG_1 h, isCount, hwB, hi, h1, decide_true, Bool.true_and]
      · simp only [runs_nil, runs_cons, run_asg, run_asgT, run_par, run_aug, run_app, run_seti, run_expr, run_iff, run_whl, run_fr, run_ret, run_retN, run_pass, run_brk, run_cont, ev_var, ev_cst, ev_tup, ev_lst, ev_bin, ev_neg, ev_cmp, ev_cmp2, ev_and, ev_or, ev_not, ev_ife, ev_ix, ev_sl, ev_call, ev_bi, ev_isi, ev_mt1, ev_lc, ev_ali, ev_mkT, ev_callT, run_tape, run_mpar, evM_nil, evM_cons, thaw_d, thaw_fr, thaw_pl, asgs, run_gset, run_gpop, glL, putG, setG, fin_next, fin_ret, fin_exc, fin_any, seq_any, evs_nil, evs_cons, evL_nil, evL_cons, evG_nil, evG_cons, evT_yes, evT_not, evT_and, evT_or, evT_ife, evT_val, evO_no, evO_so, evI_ex, evI_rng1, evI_rng2, evI_zip, evI_enm, evI_rng3, zip_tup, zip_lst, tru_bl, tru_int, R.bind_ok, FR.of_ok, seq_next, seq_ret, seq_brk, seq_cont, seq_exc, seq_ite, of_some, of_none, get_d, get_fr, get_pl, cont_dat, cont_own, cont_bor, cont_lck, frz_d, frz_fr, asg_d, asg_fr, argF, argT, gets_nil, gets_cons, ags_nil, ags_cons, ag_d, lents_d, lents_pl, lents_nil, backs_nil, backs_d, backs_pl, backW, lock_d, lock_fr, lock_pl, setW, tgD, tgsD, normW, finA, List.getElem?_cons_zero, List.getElem?_cons_succ, List.set_cons_zero, List.set_cons_succ, Option.bind_some, Option.bind_none, Option.map_some, Option.map_none, List.map_cons, List.map_nil, List.replicate, List.cons_append, List.nil_append, Bool.and_true, Bool.and_self, if_true, if_false, Bool.false_eq_true, reduceCtorEq, List.length_cons, List.length_nil, Nat.reduceAdd, Nat.reduceSub, List.all_cons, List.all_nil, List.getD_cons_zero, List.getD_cons_succ, plainVs, backV, wipeW, biD, len_lst, len_tup, len_scr, tupleD, listD, allD, intD, absD, isiD, isiO_non, isiO_bl, isiO_int, isiO_str, isiO_tup, isiO_lst, isiO_scr, len_gl, x_gl, isN, b_add, b_sub, b_mulr, b_mull, b_fdiv, b_mod, b_pow, b_shl, b_shr, b_band, b_bor, b_bxor, b_addt, b_addl, b_repl, c_eqi, c_eqs, c_eqb, c_nei, c_nes, c_lt, c_le, c_gt, c_ge, c_is, c_isn, c_isb, c_isnb, isB, c_in, x_lst, x_tup, x_scr, it_lst, it_tup, it_scr, Bool.not_true, Bool.not_false, id_eq, blsOf, intsOf, strsOf, and_self, true_and, and_true, Nat.reduceMul, Nat.reducePow, Nat.reduceLeDiff, Int.reduceLT, Int.reduceLE, Int.reduceNeg, Int.reducePow, Int.reduceToNat, Int.reduceMul, Int.reduceAdd, Int.reduceSub, List.flatten_cons, List.flatten_nil, List.append_nil, line_nil, line_n, decide_true, decide_false, callG_1 h, isCount, hwB, hi, h1, decide_true, decide_false, Bool.false_and]
    · have h1 : ¬ 1 ≤ i := by omega
      simp only [runs_nil, runs_cons, run_asg, run_asgT, run_par, run_aug, run_app, run_seti, run_expr, run_iff, run_whl, run_fr, run_ret, run_retN, run_pass, run_brk, run_cont, ev_var, ev_cst, ev_tup, ev_lst, ev_bin, ev_neg, ev_cmp, ev_cmp2, ev_and, ev_or, ev_not, ev_ife, ev_ix, ev_sl, ev_call, ev_bi, ev_isi, ev_mt1, ev_lc, ev_ali, ev_mkT, ev_callT, run_tape, run_mpar, evM_nil, evM_cons, thaw_d, thaw_fr, thaw_pl, asgs, run_gset, run_gpop, glL, putG, setG, fin_next, fin_ret, fin_exc, fin_any, seq_any, evs_nil, evs_cons, evL_nil, evL_cons, evG_nil, evG_cons, evT_yes, evT_not, evT_and, evT_or, evT_ife, evT_val, evO_no, evO_so, evI_ex, evI_rng1, evI_rng2, evI_zip, evI_enm, evI_rng3, zip_tup, zip_lst, tru_bl, tru_int, R.bind_ok, FR.of_ok, seq_next, seq_ret, seq_brk, seq_cont, seq_exc, seq_ite, of_some, of_none, get_d, get_fr, get_pl, cont_dat, cont_own, cont_bor, cont_lck, frz_d, frz_fr, asg_d, asg_fr, argF, argT, gets_nil, gets_cons, ags_nil, ags_cons, ag_d, lents_d, lents_pl, lents_nil, backs_nil, backs_d, backs_pl, backW, lock_d, lock_fr, lock_pl, setW, tgD, tgsD, normW, finA, List.getElem?_cons_zero, List.getElem?_cons_succ, List.set_cons_zero, List.set_cons_succ, Option.bind_some, Option.bind_none, Option.map_some, Option.map_none, List.map_cons, List.map_nil, List.replicate, List.cons_append, List.nil_append, Bool.and_true, Bool.and_self, if_true, if_false, Bool.false_eq_true, reduceCtorEq, List.length_cons, List.length_nil, Nat.reduceAdd, Nat.reduceSub, List.all_cons, List.all_nil, List.getD_cons_zero, List.getD_cons_succ, plainVs, backV, wipeW, biD, len_lst, len_tup, len_scr, tupleD, listD, allD, intD, absD, isiD, isiO_non, isiO_bl, isiO_int, isiO_str, isiO_tup, isiO_lst, isiO_scr, len_gl, x_gl, isN, b_add, b_sub, b_mulr, b_mull, b_fdiv, b_mod, b_pow, b_shl, b_shr, b_band, b_bor, b_bxor, b_addt, b_addl, b_repl, c_eqi, c_eqs, c_eqb, c_nei, c_nes, c_lt, c_le, c_gt, c_ge, c_is, c_isn, c_isb, c_isnb, isB, c_in, x_lst, x_tup, x_scr, it_lst, it_tup, it_scr, Bool.not_true, Bool.not_false, id_eq, blsOf, intsOf, strsOf, and_self, true_and, and_true, Nat.reduceMul, Nat.reducePow, Nat.reduceLeDiff, Int.reduceLT, Int.reduceLE, Int.reduceNeg, Int.reducePow, Int.reduceToNat, Int.reduceMul, Int.reduceAdd, Int.reduceSub, List.flatten_cons, List.flatten_nil, List.append_nil, line_nil, line_n, decide_true, decide_false, callG_1 h, isCount, hwB, hi, h1, decide_false, Bool.false_and]
  | _ => simp only [runs_nil, runs_cons, run_asg, run_asgT, run_par, run_aug, run_app, run_seti, run_expr, run_iff, run_whl, run_fr, run_ret, run_retN, run_pass, run_brk, run_cont, ev_var, ev_cst, ev_tup, ev_lst, ev_bin, ev_neg, ev_cmp, ev_cmp2, ev_and, ev_or, ev_not, ev_ife, ev_ix, ev_sl, ev_call, ev_bi, ev_isi, ev_mt1, ev_lc, ev_ali, ev_mkT, ev_callT, run_tape, run_mpar, evM_nil, evM_cons, thaw_d, thaw_fr, thaw_pl, asgs, run_gset, run_gpop, glL, putG, setG, fin_next, fin_ret, fin_exc, fin_any, seq_any, evs_nil, evs_cons, evL_nil, evL_cons, evG_nil, evG_cons, evT_yes, evT_not, evT_and, evT_or, evT_ife, evT_val, evO_no, evO_so, evI_ex, evI_rng1, evI_rng2, evI_zip, evI_enm, evI_rng3, zip_tup, zip_lst, tru_bl, tru_int, R.bind_ok, FR.of_ok, seq_next, seq_ret, seq_brk, seq_cont, seq_exc, seq_ite, of_some, of_none, get_d, get_fr, get_pl, cont_dat, cont_own, cont_bor, cont_lck, frz_d, frz_fr, asg_d, asg_fr, argF, argT, gets_nil, gets_cons, ags_nil, ags_cons, ag_d, lents_d, lents_pl, lents_nil, backs_nil, backs_d, backs_pl, backW, lock_d, lock_fr, lock_pl, setW, tgD, tgsD, normW, finA, List.getElem?_cons_zero, List.getElem?_cons_succ, List.set_cons_zero, List.set_cons_succ, Option.bind_some, Option.bind_none, Option.map_some, Option.map_none, List.map_cons, List.map_nil, List.replicate, List.cons_append, List.nil_append, Bool.and_true, Bool.and_self, if_true, if_false, Bool.false_eq_true, reduceCtorEq, List.length_cons, List.length_nil, Nat.reduceAdd, Nat.reduceSub, List.all_cons, List.all_nil, List.getD_cons_zero, List.getD_cons_succ, plainVs, backV, wipeW, biD, len_lst, len_tup, len_scr, tupleD, listD, allD, intD, absD, isiD, isiO_non, isiO_bl, isiO_int, isiO_str, isiO_tup, isiO_lst, isiO_scr, len_gl, x_gl, isN, b_add, b_sub, b_mulr, b_mull, b_fdiv, b_mod, b_pow, b_shl, b_shr, b_band, b_bor, b_bxor, b_addt, b_addl, b_repl, c_eqi, c_eqs, c_eqb, c_nei, c_nes, c_lt, c_le, c_gt, c_ge, c_is, c_isn, c_isb, c_isnb, isB, c_in, x_lst, x_tup, x_scr, it_lst, it_tup, it_scr, Bool.not_true, Bool.not_false, id_eq, blsOf, intsOf, strsOf, and_self, true_and, and_true, Nat.reduceMul, Nat.reducePow, Nat.reduceLeDiff, Int.reduceLT, Int.reduceLE, Int.reduceNeg, Int.reducePow, Int.reduceToNat, Int.reduceMul, Int.reduceAdd, Int.reduceSub, List.flatten_cons, List.flatten_nil, List.append_nil, line_nil, line_n, decide_true, decide_false, callG_1 h, isCount, hwB]
/-- an address -/
def addrB : D → Bool
  | .tup [.int a, .int b] => (decide (1 ≤ a) && decide (a ≤ 30)) && (decide (1 ≤ b) && decide (b ≤ 250))
  | _ => false

theorem n2 : ((2 : Nat) : Int) = 2 := rfl
theorem n5 : ((5 : Nat) : Int) = 5 := rfl
theorem n7 : ((7 : Nat) : Int) = 7 := rfl
theorem addr_len {ds : List D} (h : addrB (.tup ds) = true) : ∃ a b : Int, ds = [.int a, .int b] ∧ 1 ≤ a ∧ a ≤ 30 ∧ 1 ≤ b ∧ b ≤ 250 := by
  unfold addrB at h
  split at h
  · rename_i a b e
    cases e
    simp only [Bool.and_eq_true, decide_eq_true_eq] at h
    exact ⟨a, b, rfl, h.1.1, h.1.2, h.2.1, h.2.2⟩
  · cases h
theorem addr_no {ds : List D} (h : ds.length ≠ 2) : addrB (.tup ds) = false := by
  cases q : addrB (.tup ds) with
  | false => rfl
  | true =>
    obtain ⟨a, b, rfl, _⟩ := addr_len q
    exact absurd rfl h
def Ok1 (d : D) : Prop := Sol d ∧ ∀ ds, d = .tup ds → ds.length ≤ 1000 ∧ ∀ x ∈ ds, Sol x
theorem line_k {n : Nat} (h : n ≤ 1000) : n ≤ Line := Nat.le_trans h (by decide)
theorem is_address (k : Nat) {d : D} (h : Ok1 d) : callK (prg rows) (k + 2) 5 [.dat d] = .ok (.d (.bl (addrB d))) [.dat d] := by
  obtain ⟨hs, hd⟩ := h
  rw [callK_run p5]
  unfold runF c_is_address
  rw [if_pos ⟨rfl, rfl⟩]
  cases d with
  | tup ds =>
    obtain ⟨hl, hx⟩ := hd ds rfl
    by_cases h2 : ds.length = 2
    · match ds, h2 with
      | [x, y], _ =>
        have lc := lcRun_ok (un := id) (tg := .name 1) (vs := [1]) (ρ1 := [.dat (.tup [x, y]), .un]) (xs := [x, y]) rfl (lcGo_all (elt := ev (callK (prg rows) (k + 1)) (.call 0 (.cons false (.var 1) .nil))) (φ := callK (prg rows) (k + 1)) (ρ := [.dat (.tup [x, y]), .un]) (i := 1) (vs := [1]) (fun x => .bl (isCount x)) (xs := [x, y]) (fun z hz => by simp only [runs_nil, runs_cons, run_asg, run_asgT, run_par, run_aug, run_app, run_seti, run_expr, run_iff, run_whl, run_fr, run_ret, run_retN, run_pass, run_brk, run_cont, ev_var, ev_cst, ev_tup, ev_lst, ev_bin, ev_neg, ev_cmp, ev_cmp2, ev_and, ev_or, ev_not, ev_ife, ev_ix, ev_sl, ev_call, ev_bi, ev_isi, ev_mt1, ev_lc, ev_ali, ev_mkT, ev_callT, run_tape, run_mpar, evM_nil, evM_cons, thaw_d, thaw_fr, thaw_pl, asgs, run_gset, run_gpop, glL, putG, setG, fin_next, fin_ret, fin_exc, fin_any, seq_any, evs_nil, evs_cons, evL_nil, evL_cons, evG_nil, evG_cons, evT_yes, evT_not, evT_and, evT_or, evT_ife, evT_val, evO_no, evO_so, evI_ex, evI_rng1, evI_rng2, evI_zip, evI_enm, evI_rng3, zip_tup, zip_lst, tru_bl, tru_int, R.bind_ok, FR.of_ok, seq_next, seq_ret, seq_brk, seq_cont, seq_exc, seq_ite, of_some, of_none, get_d, get_fr, get_pl, cont_dat, cont_own, cont_bor, cont_lck, frz_d, frz_fr, asg_d, asg_fr, argF, argT, gets_nil, gets_cons, ags_nil, ags_cons, ag_d, lents_d, lents_pl, lents_nil, backs_nil, backs_d, backs_pl, backW, lock_d, lock_fr, lock_pl, setW, tgD, tgsD, normW, finA, List.getElem?_cons_zero, List.getElem?_cons_succ, List.set_cons_zero, List.set_cons_succ, Option.bind_some, Option.bind_none, Option.map_some, Option.map_none, List.map_cons, List.map_nil, List.replicate, List.cons_append, List.nil_append, Bool.and_true, Bool.and_self, if_true, if_false, Bool.false_eq_true, reduceCtorEq, List.length_cons, List.length_nil, Nat.reduceAdd, Nat.reduceSub, List.all_cons, List.all_nil, List.getD_cons_zero, List.getD_cons_succ, plainVs, backV, wipeW, biD, len_lst, len_tup, len_scr, tupleD, listD, allD, intD, absD, isiD, isiO_non, isiO_bl, isiO_int, isiO_str, isiO_tup, isiO_lst, isiO_scr, len_gl, x_gl, isN, b_add, b_sub, b_mulr, b_mull, b_fdiv, b_mod, b_pow, b_shl, b_shr, b_band, b_bor, b_bxor, b_addt, b_addl, b_repl, c_eqi, c_eqs, c_eqb, c_nei, c_nes, c_lt, c_le, c_gt, c_ge, c_is, c_isn, c_isb, c_isnb, isB, c_in, x_lst, x_tup, x_scr, it_lst, it_tup, it_scr, Bool.not_true, Bool.not_false, id_eq, blsOf, intsOf, strsOf, and_self, true_and, and_true, Nat.reduceMul, Nat.reducePow, Nat.reduceLeDiff, Int.reduceLT, Int.reduceLE, Int.reduceNeg, Int.reducePow, Int.reduceToNat, Int.reduceMul, Int.reduceAdd, Int.reduceSub, List.flatten_cons, List.flatten_nil, List.append_nil, line_nil, line_n, decide_true, decide_false, callG_1 (is_count k (hx z hz))]) (fun _ => rfl) (fun _ => rfl) (line_k hl))
        simp only [List.map_cons, List.map_nil] at lc
        by_cases hc : isCount x = true ∧ isCount y = true
        · obtain ⟨c1, c2⟩ := hc
          cases x with
          | int a =>
            cases y with
            | int b =>
              simp only [runs_nil, runs_cons, run_asg, run_asgT, run_par, run_aug, run_app, run_seti, run_expr, run_iff, run_whl, run_fr, run_ret, run_retN, run_pass, run_brk, run_cont, ev_var, ev_cst, ev_tup, ev_lst, ev_bin, ev_neg, ev_cmp, ev_cmp2, ev_and, ev_or, ev_not, ev_ife, ev_ix, ev_sl, ev_call, ev_bi, ev_isi, ev_mt1, ev_lc, ev_ali, ev_mkT, ev_callT, run_tape, run_mpar, evM_nil, evM_cons, thaw_d, thaw_fr, thaw_pl, asgs, run_gset, run_gpop, glL, putG, setG, fin_next, fin_ret, fin_exc, fin_any, seq_any, evs_nil, evs_cons, evL_nil, evL_cons, evG_nil, evG_cons, evT_yes, evT_not, evT_and, evT_or, evT_ife, evT_val, evO_no, evO_so, evI_ex, evI_rng1, evI_rng2, evI_zip, evI_enm, evI_rng3, zip_tup, zip_lst, tru_bl, tru_int, R.bind_ok, FR.of_ok, seq_next, seq_ret, seq_brk, seq_cont, seq_exc, seq_ite, of_some, of_none, get_d, get_fr, get_pl, cont_dat, cont_own, cont_bor, cont_lck, frz_d, frz_fr, asg_d, asg_fr, argF, argT, gets_nil, gets_cons, ags_nil, ags_cons, ag_d, lents_d, lents_pl, lents_nil, backs_nil, backs_d, backs_pl, backW, lock_d, lock_fr, lock_pl, setW, tgD, tgsD, normW, finA, List.getElem?_cons_zero, List.getElem?_cons_succ, List.set_cons_zero, List.set_cons_succ, Option.bind_some, Option.bind_none, Option.map_some, Option.map_none, List.map_cons, List.map_nil, List.replicate, List.cons_append, List.nil_append, Bool.and_true, Bool.and_self, if_true, if_false, Bool.false_eq_true, reduceCtorEq, List.length_cons, List.length_nil, Nat.reduceAdd, Nat.reduceSub, List.all_cons, List.all_nil, List.getD_cons_zero, List.getD_cons_succ, plainVs, backV, wipeW, biD, len_lst, len_tup, len_scr, tupleD, listD, allD, intD, absD, isiD, isiO_non, isiO_bl, isiO_int, isiO_str, isiO_tup, isiO_lst, isiO_scr, len_gl, x_gl, isN, b_add, b_sub, b_mulr, b_mull, b_fdiv, b_mod, b_pow, b_shl, b_shr, b_band, b_bor, b_bxor, b_addt, b_addl, b_repl, c_eqi, c_eqs, c_eqb, c_nei, c_nes, c_lt, c_le, c_gt, c_ge, c_is, c_isn, c_isb, c_isnb, isB, c_in, x_lst, x_tup, x_scr, it_lst, it_tup, it_scr, Bool.not_true, Bool.not_false, id_eq, blsOf, intsOf, strsOf, and_self, true_and, and_true, Nat.reduceMul, Nat.reducePow, Nat.reduceLeDiff, Int.reduceLT, Int.reduceLE, Int.reduceNeg, Int.reducePow, Int.reduceToNat, Int.reduceMul, Int.reduceAdd, Int.reduceSub, List.flatten_cons, List.flatten_nil, List.append_nil, line_nil, line_n, decide_true, decide_false, n2]
              rw [lc]
              simp only [runs_nil, runs_cons, run_asg, run_asgT, run_par, run_aug, run_app, run_seti, run_expr, run_iff, run_whl, run_fr, run_ret, run_retN, run_pass, run_brk, run_cont, ev_var, ev_cst, ev_tup, ev_lst, ev_bin, ev_neg, ev_cmp, ev_cmp2, ev_and, ev_or, ev_not, ev_ife, ev_ix, ev_sl, ev_call, ev_bi, ev_isi, ev_mt1, ev_lc, ev_ali, ev_mkT, ev_callT, run_tape, run_mpar, evM_nil, evM_cons, thaw_d, thaw_fr, thaw_pl, asgs, run_gset, run_gpop, glL, putG, setG, fin_next, fin_ret, fin_exc, fin_any, seq_any, evs_nil, evs_cons, evL_nil, evL_cons, evG_nil, evG_cons, evT_yes, evT_not, evT_and, evT_or, evT_ife, evT_val, evO_no, evO_so, evI_ex, evI_rng1, evI_rng2, evI_zip, evI_enm, evI_rng3, zip_tup, zip_lst, tru_bl, tru_int, R.bind_ok, FR.of_ok, seq_next, seq_ret, seq_brk, seq_cont, seq_exc, seq_ite, of_some, of_none, get_d, get_fr, get_pl, cont_dat, cont_own, cont_bor, cont_lck, frz_d, frz_fr, asg_d, asg_fr, argF, argT, gets_nil, gets_cons, ags_nil, ags_cons, ag_d, lents_d, lents_pl, lents_nil, backs_nil, backs_d, backs_pl, backW, lock_d, lock_fr, lock_pl, setW, tgD, tgsD, normW, finA, List.getElem?_cons_zero, List.getElem?_cons_succ, List.set_cons_zero, List.set_cons_succ, Option.bind_some, Option.bind_none, Option.map_some, Option.map_none, List.map_cons, List.map_nil, List.replicate, List.cons_append, List.nil_append, Bool.and_true, Bool.and_self, if_true, if_false, Bool.false_eq_true, reduceCtorEq, List.length_cons, List.length_nil, Nat.reduceAdd, Nat.reduceSub, List.all_cons, List.all_nil, List.getD_cons_zero, List.getD_cons_succ, plainVs, backV, wipeW, biD, len_lst, len_tup, len_scr, tupleD, listD, allD, intD, absD, isiD, isiO_non, isiO_bl, isiO_int, isiO_str, isiO_tup, isiO_lst, isiO_scr, len_gl, x_gl, isN, b_add, b_sub, b_mulr, b_mull, b_fdiv, b_mod, b_pow, b_shl, b_shr, b_band, b_bor, b_bxor, b_addt, b_addl, b_repl, c_eqi, c_eqs, c_eqb, c_nei, c_nes, c_lt, c_le, c_gt, c_ge, c_is, c_isn, c_isb, c_isnb, isB, c_in, x_lst, x_tup, x_scr, it_lst, it_tup, it_scr, Bool.not_true, Bool.not_false, id_eq, blsOf, intsOf, strsOf, and_self, true_and, and_true, Nat.reduceMul, Nat.reducePow, Nat.reduceLeDiff, Int.reduceLT, Int.reduceLE, Int.reduceNeg, Int.reducePow, Int.reduceToNat, Int.reduceMul, Int.reduceAdd, Int.reduceSub, List.flatten_cons, List.flatten_nil, List.append_nil, line_nil, line_n, decide_true, decide_false, c1, c2, addrB]
              by_cases q1 : 1 ≤ a
              · by_cases q2 : a ≤ 30
                · by_cases q3 : 1 ≤ b
                  · simp only [runs_nil, runs_cons, run_asg, run_asgT, run_par, run_aug, run_app, run_seti, run_expr, run_iff, run_whl, run_fr, run_ret, run_retN, run_pass, run_brk, run_cont, ev_var, ev_cst, ev_tup, ev_lst, ev_bin, ev_neg, ev_cmp, ev_cmp2, ev_and, ev_or, ev_not, ev_ife, ev_ix, ev_sl, ev_call, ev_bi, ev_isi, ev_mt1, ev_lc, ev_ali, ev_mkT, ev_callT, run_tape, run_mpar, evM_nil, evM_cons, thaw_d, thaw_fr, thaw_pl, asgs, run_gset, run_gpop, glL, putG, setG, fin_next, fin_ret, fin_exc, fin_any, seq_any, evs_nil, evs_cons, evL_nil, evL_cons, evG_nil, evG_cons, evT_yes, evT_not, evT_and, evT_or, evT_ife, evT_val, evO_no, evO_so, evI_ex, evI_rng1, evI_rng2, evI_zip, evI_enm, evI_rng3, zip_tup, zip_lst, tru_bl, tru_int, R.bind_ok, FR.of_ok, seq_next, seq_ret, seq_brk, seq_cont, seq_exc, seq_ite, of_some, of_none, get_d, get_fr, get_pl, cont_dat, cont_own, cont_bor, cont_lck, frz_d, frz_fr, asg_d, asg_fr, argF, argT, gets_nil, gets_cons, ags_nil, ags_cons, ag_d, lents_d, lents_pl, lents_nil, backs_nil, backs_d, backs_pl, backW, lock_d, lock_fr, lock_pl, setW, tgD, tgsD, normW, finA, List.getElem?_cons_zero, List.getElem?_cons_succ, List.set_cons_zero, List.set_cons_succ, Option.bind_some, Option.bind_none, Option.map_some, Option.map_none, List.map_cons, List.map_nil, List.replicate, List.cons_append, List.nil_append, Bool.and_true, Bool.and_self, if_true, if_false, Bool.false_eq_true, reduceCtorEq, List.length_cons, List.length_nil, Nat.reduceAdd, Nat.reduceSub, List.all_cons, List.all_nil, List.getD_cons_zero, List.getD_cons_succ, plainVs, backV, wipeW, biD, len_lst, len_tup, len_scr, tupleD, listD, allD, intD, absD, isiD, isiO_non, isiO_bl, isiO_int, isiO_str, isiO_tup, isiO_lst, isiO_scr, len_gl, x_gl, isN, b_add, b_sub, b_mulr, b_mull, b_fdiv, b_mod, b_pow, b_shl, b_shr, b_band, b_bor, b_bxor, b_addt, b_addl, b_repl, c_eqi, c_eqs, c_eqb, c_nei, c_nes, c_lt, c_le, c_gt, c_ge, c_is, c_isn, c_isb, c_isnb, isB, c_in, x_lst, x_tup, x_scr, it_lst, it_tup, it_scr, Bool.not_true, Bool.not_false, id_eq, blsOf, intsOf, strsOf, and_self, true_and, and_true, Nat.reduceMul, Nat.reducePow, Nat.reduceLeDiff, Int.reduceLT, Int.reduceLE, Int.reduceNeg, Int.reducePow, Int.reduceToNat, Int.reduceMul, Int.reduceAdd, Int.reduceSub, List.flatten_cons, List.flatten_nil, List.append_nil, line_nil, line_n, decide_true, decide_false, at_0, at2_1, q1, q2, q3, Bool.true_and, Bool.false_and]
                  · simp only [runs_nil, runs_cons, run_asg, run_asgT, run_par, run_aug, run_app, run_seti, run_expr, run_iff, run_whl, run_fr, run_ret, run_retN, run_pass, run_brk, run_cont, ev_var, ev_cst, ev_tup, ev_lst, ev_bin, ev_neg, ev_cmp, ev_cmp2, ev_and, ev_or, ev_not, ev_ife, ev_ix, ev_sl, ev_call, ev_bi, ev_isi, ev_mt1, ev_lc, ev_ali, ev_mkT, ev_callT, run_tape, run_mpar, evM_nil, evM_cons, thaw_d, thaw_fr, thaw_pl, asgs, run_gset, run_gpop, glL, putG, setG, fin_next, fin_ret, fin_exc, fin_any, seq_any, evs_nil, evs_cons, evL_nil, evL_cons, evG_nil, evG_cons, evT_yes, evT_not, evT_and, evT_or, evT_ife, evT_val, evO_no, evO_so, evI_ex, evI_rng1, evI_rng2, evI_zip, evI_enm, evI_rng3, zip_tup, zip_lst, tru_bl, tru_int, R.bind_ok, FR.of_ok, seq_next, seq_ret, seq_brk, seq_cont, seq_exc, seq_ite, of_some, of_none, get_d, get_fr, get_pl, cont_dat, cont_own, cont_bor, cont_lck, frz_d, frz_fr, asg_d, asg_fr, argF, argT, gets_nil, gets_cons, ags_nil, ags_cons, ag_d, lents_d, lents_pl, lents_nil, backs_nil, backs_d, backs_pl, backW, lock_d, lock_fr, lock_pl, setW, tgD, tgsD, normW, finA, List.getElem?_cons_zero, List.getElem?_cons_succ, List.set_cons_zero, List.set_cons_succ, Option.bind_some, Option.bind_none, Option.map_some, Option.map_none, List.map_cons, List.map_nil, List.replicate, List.cons_append, List.nil_append, Bool.and_true, Bool.and_self, if_true, if_false, Bool.false_eq_true, reduceCtorEq, List.length_cons, List.length_nil, Nat.reduceAdd, Nat.reduceSub, List.all_cons, List.all_nil, List.getD_cons_zero, List.getD_cons_succ, plainVs, backV, wipeW, biD, len_lst, len_tup, len_scr, tupleD, listD, allD, intD, absD, isiD, isiO_non, isiO_bl, isiO_int, isiO_str, isiO_tup, isiO_lst, isiO_scr, len_gl, x_gl, isN, b_add, b_sub, b_mulr, b_mull, b_fdiv, b_mod, b_pow, b_shl, b_shr, b_band, b_bor, b_bxor, b_addt, b_addl, b_repl, c_eqi, c_eqs, c_eqb, c_nei, c_nes, c_lt, c_le, c_gt, c_ge, c_is, c_isn, c_isb, c_isnb, isB, c_in, x_lst, x_tup, x_scr, it_lst, it_tup, it_scr, Bool.not_true, Bool.not_false, id_eq, blsOf, intsOf, strsOf, and_self, true_and, and_true, Nat.reduceMul, Nat.reducePow, Nat.reduceLeDiff, Int.reduceLT, Int.reduceLE, Int.reduceNeg, Int.reducePow, Int.reduceToNat, Int.reduceMul, Int.reduceAdd, Int.reduceSub, List.flatten_cons, List.flatten_nil, List.append_nil, line_nil, line_n, decide_true, decide_false, at_0, at2_1, q1, q2, q3, Bool.true_and, Bool.false_and]
                · simp only [runs_nil, runs_cons, run_asg, run_asgT, run_par, run_aug, run_app, run_seti, run_expr, run_iff, run_whl, run_fr, run_ret, run_retN, run_pass, run_brk, run_cont, ev_var, ev_cst, ev_tup, ev_lst, ev_bin, ev_neg, ev_cmp, ev_cmp2, ev_and, ev_or, ev_not, ev_ife, ev_ix, ev_sl, ev_call, ev_bi, ev_isi, ev_mt1, ev_lc, ev_ali, ev_mkT, ev_callT, run_tape, run_mpar, evM_nil, evM_cons, thaw_d, thaw_fr, thaw_pl, asgs, run_gset, run_gpop, glL, putG, setG, fin_next, fin_ret, fin_exc, fin_any, seq_any, evs_nil, evs_cons, evL_nil, evL_cons, evG_nil, evG_cons, evT_yes, evT_not, evT_and, evT_or, evT_ife, evT_val, evO_no, evO_so, evI_ex, evI_rng1, evI_rng2, evI_zip, evI_enm, evI_rng3, zip_tup, zip_lst, tru_bl, tru_int, R.bind_ok, FR.of_ok, seq_next, seq_ret, seq_brk, seq_cont, seq_exc, seq_ite, of_some, of_none, get_d, get_fr, get_pl, cont_dat, cont_own, cont_bor, cont_lck, frz_d, frz_fr, asg_d, asg_fr, argF, argT, gets_nil, gets_cons, ags_nil, ags_cons, ag_d, lents_d, lents_pl, lents_nil, backs_nil, backs_d, backs_pl, backW, lock_d, lock_fr, lock_pl, setW, tgD, tgsD, normW, finA, List.getElem?_cons_zero, List.getElem?_cons_succ, List.set_cons_zero, List.set_cons_succ, Option.bind_some, Option.bind_none, Option.map_some, Option.map_none, List.map_cons, List.map_nil, List.replicate, List.cons_append, List.nil_append, Bool.and_true, Bool.and_self, if_true, if_false, Bool.false_eq_true, reduceCtorEq, List.length_cons, List.length_nil, Nat.reduceAdd, Nat.reduceSub, List.all_cons, List.all_nil, List.getD_cons_zero, List.getD_cons_succ, plainVs, backV, wipeW, biD, len_lst, len_tup, len_scr, tupleD, listD, allD, intD, absD, isiD, isiO_non, isiO_bl, isiO_int, isiO_str, isiO_tup, isiO_lst, isiO_scr, len_gl, x_gl, isN, b_add, b_sub, b_mulr, b_mull, b_fdiv, b_mod, b_pow, b_shl, b_shr, b_band, b_bor, b_bxor, b_addt, b_addl, b_repl, c_eqi, c_eqs, c_eqb, c_nei, c_nes, c_lt, c_le, c_gt, c_ge, c_is, c_isn, c_isb, c_isnb, isB, c_in, x_lst, x_tup, x_scr, it_lst, it_tup, it_scr, Bool.not_true, Bool.not_false, id_eq, blsOf, intsOf, strsOf, and_self, true_and, and_true, Nat.reduceMul, Nat.reducePow, Nat.reduceLeDiff, Int.reduceLT, Int.reduceLE, Int.reduceNeg, Int.reducePow, Int.reduceToNat, Int.reduceMul, Int.reduceAdd, Int.reduceSub, List.flatten_cons, List.flatten_nil, List.append_nil, line_nil, line_n, decide_true, decide_false, at_0, at2_1, q1, q2, Bool.true_and, Bool.false_and]
              · simp only [runs_nil, runs_cons, run_asg, run_asgT, run_par, run_aug, run_app, run_seti, run_expr, run_iff, run_whl, run_fr, run_ret, run_retN, run_pass, run_brk, run_cont, ev_var, ev_cst, ev_tup, ev_lst, ev_bin, ev_neg, ev_cmp, ev_cmp2, ev_and, ev_or, ev_not, ev_ife, ev_ix, ev_sl, ev_call, ev_bi, ev_isi, ev_mt1, ev_lc, ev_ali, ev_mkT, ev_callT, run_tape, run_mpar, evM_nil, evM_cons, thaw_d, thaw_fr, thaw_pl, asgs, run_gset, run_gpop, glL, putG, setG, fin_next, fin_ret, fin_exc, fin_any, seq_any, evs_nil, evs_cons, evL_nil, evL_cons, evG_nil, evG_cons, evT_yes, evT_not, evT_and, evT_or, evT_ife, evT_val, evO_no, evO_so, evI_ex, evI_rng1, evI_rng2, evI_zip, evI_enm, evI_rng3, zip_tup, zip_lst, tru_bl, tru_int, R.bind_ok, FR.of_ok, seq_next, seq_ret, seq_brk, seq_cont, seq_exc, seq_ite, of_some, of_none, get_d, get_fr, get_pl, cont_dat, cont_own, cont_bor, cont_lck, frz_d, frz_fr, asg_d, asg_fr, argF, argT, gets_nil, gets_cons, ags_nil, ags_cons, ag_d, lents_d, lents_pl, lents_nil, backs_nil, backs_d, backs_pl, backW, lock_d, lock_fr, lock_pl, setW, tgD, tgsD, normW, finA, List.getElem?_cons_zero, List.getElem?_cons_succ, List.set_cons_zero, List.set_cons_succ, Option.bind_some, Option.bind_none, Option.map_some, Option.map_none, List.map_cons, List.map_nil, List.replicate, List.cons_append, List.nil_append, Bool.and_true, Bool.and_self, if_true, if_false, Bool.false_eq_true, reduceCtorEq, List.length_cons, List.length_nil, Nat.reduceAdd, Nat.reduceSub, List.all_cons, List.all_nil, List.getD_cons_zero, List.getD_cons_succ, plainVs, backV, wipeW, biD, len_lst, len_tup, len_scr, tupleD, listD, allD, intD, absD, isiD, isiO_non, isiO_bl, isiO_int, isiO_str, isiO_tup, isiO_lst, isiO_scr, len_gl, x_gl, isN, b_add, b_sub, b_mulr, b_mull, b_fdiv, b_mod, b_pow, b_shl, b_shr, b_band, b_bor, b_bxor, b_addt, b_addl, b_repl, c_eqi, c_eqs, c_eqb, c_nei, c_nes, c_lt, c_le, c_gt, c_ge, c_is, c_isn, c_isb, c_isnb, isB, c_in, x_lst, x_tup, x_scr, it_lst, it_tup, it_scr, Bool.not_true, Bool.not_false, id_eq, blsOf, intsOf, strsOf, and_self, true_and, and_true, Nat.reduceMul, Nat.reducePow, Nat.reduceLeDiff, Int.reduceLT, Int.reduceLE, Int.reduceNeg, Int.reducePow, Int.reduceToNat, Int.reduceMul, Int.reduceAdd, Int.reduceSub, List.flatten_cons, List.flatten_nil, List.append_nil, line_nil, line_n, decide_true, decide_false, at_0, at2_1, q1, Bool.true_and, Bool.false_and]
            | _ => cases c2
          | _ => cases c1
        · have hall : (isCount x && isCount y) = false := by
            cases q1 : isCount x with
            | false => rfl
            | true =>
              cases q2 : isCount y with
              | false => rfl
              | true => exact absurd ⟨q1, q2⟩ hc
          have hn : addrB (.tup [x, y]) = false := by
            cases q : addrB (.tup [x, y]) with
            | false => rfl
            | true =>
              obtain ⟨a, b, e, a1, a2, b1, b2⟩ := addr_len q
              cases e
              exact absurd ⟨decide_eq_true (by omega), decide_eq_true (by omega)⟩ hc
          simp only [runs_nil, runs_cons, run_asg, run_asgT, run_par, run_aug, run_app, run_seti, run_expr, run_iff, run_whl, run_fr, run_ret, run_retN, run_pass, run_brk, run_cont, ev_var, ev_cst, ev_tup, ev_lst, ev_bin, ev_neg, ev_cmp, ev_cmp2, ev_and, ev_or, ev_not, ev_ife, ev_ix, ev_sl, ev_call, ev_bi, ev_isi, ev_mt1, ev_lc, ev_ali, ev_mkT, ev_callT, run_tape, run_mpar, evM_nil, evM_cons, thaw_d, thaw_fr, thaw_pl, asgs, run_gset, run_gpop, glL, putG, setG, fin_next, fin_ret, fin_exc, fin_any, seq_any, evs_nil, evs_cons, evL_nil, evL_cons, evG_nil, evG_cons, evT_yes, evT_not, evT_and, evT_or, evT_ife, evT_val, evO_no, evO_so, evI_ex, evI_rng1, evI_rng2, evI_zip, evI_enm, evI_rng3, zip_tup, zip_lst, tru_bl, tru_int, R.bind_ok, FR.of_ok, seq_next, seq_ret, seq_brk, seq_cont, seq_exc, seq_ite, of_some, of_none, get_d, get_fr, get_pl, cont_dat, cont_own, cont_bor, cont_lck, frz_d, frz_fr, asg_d, asg_fr, argF, argT, gets_nil, gets_cons, ags_nil, ags_cons, ag_d, lents_d, lents_pl, lents_nil, backs_nil, backs_d, backs_pl, backW, lock_d, lock_fr, lock_pl, setW, tgD, tgsD, normW, finA, List.getElem?_cons_zero, List.getElem?_cons_succ, List.set_cons_zero, List.set_cons_succ, Option.bind_some, Option.bind_none, Option.map_some, Option.map_none, List.map_cons, List.map_nil, List.replicate, List.cons_append, List.nil_append, Bool.and_true, Bool.and_self, if_true, if_false, Bool.false_eq_true, reduceCtorEq, List.length_cons, List.length_nil, Nat.reduceAdd, Nat.reduceSub, List.all_cons, List.all_nil, List.getD_cons_zero, List.getD_cons_succ, plainVs, backV, wipeW, biD, len_lst, len_tup, len_scr, tupleD, listD, allD, intD, absD, isiD, isiO_non, isiO_bl, isiO_int, isiO_str, isiO_tup, isiO_lst, isiO_scr, len_gl, x_gl, isN, b_add, b_sub, b_mulr, b_mull, b_fdiv, b_mod, b_pow, b_shl, b_shr, b_band, b_bor, b_bxor, b_addt, b_addl, b_repl, c_eqi, c_eqs, c_eqb, c_nei, c_nes, c_lt, c_le, c_gt, c_ge, c_is, c_isn, c_isb, c_isnb, isB, c_in, x_lst, x_tup, x_scr, it_lst, it_tup, it_scr, Bool.not_true, Bool.not_false, id_eq, blsOf, intsOf, strsOf, and_self, true_and, and_true, Nat.reduceMul, Nat.reducePow, Nat.reduceLeDiff, Int.reduceLT, Int.reduceLE, Int.reduceNeg, Int.reducePow, Int.reduceToNat, Int.reduceMul, Int.reduceAdd, Int.reduceSub, List.flatten_cons, List.flatten_nil, List.append_nil, line_nil, line_n, decide_true, decide_false, n2]
          rw [lc]
          simp only [runs_nil, runs_cons, run_asg, run_asgT, run_par, run_aug, run_app, run_seti, run_expr, run_iff, run_whl, run_fr, run_ret, run_retN, run_pass, run_brk, run_cont, ev_var, ev_cst, ev_tup, ev_lst, ev_bin, ev_neg, ev_cmp, ev_cmp2, ev_and, ev_or, ev_not, ev_ife, ev_ix, ev_sl, ev_call, ev_bi, ev_isi, ev_mt1, ev_lc, ev_ali, ev_mkT, ev_callT, run_tape, run_mpar, evM_nil, evM_cons, thaw_d, thaw_fr, thaw_pl, asgs, run_gset, run_gpop, glL, putG, setG, fin_next, fin_ret, fin_exc, fin_any, seq_any, evs_nil, evs_cons, evL_nil, evL_cons, evG_nil, evG_cons, evT_yes, evT_not, evT_and, evT_or, evT_ife, evT_val, evO_no, evO_so, evI_ex, evI_rng1, evI_rng2, evI_zip, evI_enm, evI_rng3, zip_tup, zip_lst, tru_bl, tru_int, R.bind_ok, FR.of_ok, seq_next, seq_ret, seq_brk, seq_cont, seq_exc, seq_ite, of_some, of_none, get_d, get_fr, get_pl, cont_dat, cont_own, cont_bor, cont_lck, frz_d, frz_fr, asg_d, asg_fr, argF, argT, gets_nil, gets_cons, ags_nil, ags_cons, ag_d, lents_d, lents_pl, lents_nil, backs_nil, backs_d, backs_pl, backW, lock_d, lock_fr, lock_pl, setW, tgD, tgsD, normW, finA, List.getElem?_cons_zero, List.getElem?_cons_succ, List.set_cons_zero, List.set_cons_succ, Option.bind_some, Option.bind_none, Option.map_some, Option.map_none, List.map_cons, List.map_nil, List.replicate, List.cons_append, List.nil_append, Bool.and_true, Bool.and_self, if_true, if_false, Bool.false_eq_true, reduceCtorEq, List.length_cons, List.length_nil, Nat.reduceAdd, Nat.reduceSub, List.all_cons, List.all_nil, List.getD_cons_zero, List.getD_cons_succ, plainVs, backV, wipeW, biD, len_lst, len_tup, len_scr, tupleD, listD, allD, intD, absD, isiD, isiO_non, isiO_bl, isiO_int, isiO_str, isiO_tup, isiO_lst, isiO_scr, len_gl, x_gl, isN, b_add, b_sub, b_mulr, b_mull, b_fdiv, b_mod, b_pow, b_shl, b_shr, b_band, b_bor, b_bxor, b_addt, b_addl, b_repl, c_eqi, c_eqs, c_eqb, c_nei, c_nes, c_lt, c_le, c_gt, c_ge, c_is, c_isn, c_isb, c_isnb, isB, c_in, x_lst, x_tup, x_scr, it_lst, it_tup, it_scr, Bool.not_true, Bool.not_false, id_eq, blsOf, intsOf, strsOf, and_self, true_and, and_true, Nat.reduceMul, Nat.reducePow, Nat.reduceLeDiff, Int.reduceLT, Int.reduceLE, Int.reduceNeg, Int.reducePow, Int.reduceToNat, Int.reduceMul, Int.reduceAdd, Int.reduceSub, List.flatten_cons, List.flatten_nil, List.append_nil, line_nil, line_n, decide_true, decide_false, hall, hn]
    · have hi : ¬ ((ds.length : Nat) : Int) = 2 := by omega
      simp only [runs_nil, runs_cons, run_asg, run_asgT, run_par, run_aug, run_app, run_seti, run_expr, run_iff, run_whl, run_fr, run_ret, run_retN, run_pass, run_brk, run_cont, ev_var, ev_cst, ev_tup, ev_lst, ev_bin, ev_neg, ev_cmp, ev_cmp2, ev_and, ev_or, ev_not, ev_ife, ev_ix, ev_sl, ev_call, ev_bi, ev_isi, ev_mt1, ev_lc, ev_ali, ev_mkT, ev_callT, run_tape, run_mpar, evM_nil, evM_cons, thaw_d, thaw_fr, thaw_pl, asgs, run_gset, run_gpop, glL, putG, setG, fin_next, fin_ret, fin_exc, fin_any, seq_any, evs_nil, evs_cons, evL_nil, evL_cons, evG_nil, evG_cons, evT_yes, evT_not, evT_and, evT_or, evT_ife, evT_val, evO_no, evO_so, evI_ex, evI_rng1, evI_rng2, evI_zip, evI_enm, evI_rng3, zip_tup, zip_lst, tru_bl, tru_int, R.bind_ok, FR.of_ok, seq_next, seq_ret, seq_brk, seq_cont, seq_exc, seq_ite, of_some, of_none, get_d, get_fr, get_pl, cont_dat, cont_own, cont_bor, cont_lck, frz_d, frz_fr, asg_d, asg_fr, argF, argT, gets_nil, gets_cons, ags_nil, ags_cons, ag_d, lents_d, lents_pl, lents_nil, backs_nil, backs_d, backs_pl, backW, lock_d, lock_fr, lock_pl, setW, tgD, tgsD, normW, finA, List.getElem?_cons_zero, List.getElem?_cons_succ, List.set_cons_zero, List.set_cons_succ, Option.bind_some, Option.bind_none, Option.map_some, Option.map_none, List.map_cons, List.map_nil, List.replicate, List.cons_append, List.nil_append, Bool.and_true, Bool.and_self, if_true, if_false, Bool.false_eq_true, reduceCtorEq, List.length_cons, List.length_nil, Nat.reduceAdd, Nat.reduceSub, List.all_cons, List.all_nil, List.getD_cons_zero, List.getD_cons_succ, plainVs, backV, wipeW, biD, len_lst, len_tup, len_scr, tupleD, listD, allD, intD, absD, isiD, isiO_non, isiO_bl, isiO_int, isiO_str, isiO_tup, isiO_lst, isiO_scr, len_gl, x_gl, isN, b_add, b_sub, b_mulr, b_mull, b_fdiv, b_mod, b_pow, b_shl, b_shr, b_band, b_bor, b_bxor, b_addt, b_addl, b_repl, c_eqi, c_eqs, c_eqb, c_nei, c_nes, c_lt, c_le, c_gt, c_ge, c_is, c_isn, c_isb, c_isnb, isB, c_in, x_lst, x_tup, x_scr, it_lst, it_tup, it_scr, Bool.not_true, Bool.not_false, id_eq, blsOf, intsOf, strsOf, and_self, true_and, and_true, Nat.reduceMul, Nat.reducePow, Nat.reduceLeDiff, Int.reduceLT, Int.reduceLE, Int.reduceNeg, Int.reducePow, Int.reduceToNat, Int.reduceMul, Int.reduceAdd, Int.reduceSub, List.flatten_cons, List.flatten_nil, List.append_nil, line_nil, line_n, decide_true, decide_false, hi, addr_no h2]
  | adr b => exact not_adr hs
  | gl b ds => exact not_gl hs
  | dic x => simp only [runs_nil, runs_cons, run_asg, run_asgT, run_par, run_aug, run_app, run_seti, run_expr, run_iff, run_whl, run_fr, run_ret, run_retN, run_pass, run_brk, run_cont, ev_var, ev_cst, ev_tup, ev_lst, ev_bin, ev_neg, ev_cmp, ev_cmp2, ev_and, ev_or, ev_not, ev_ife, ev_ix, ev_sl, ev_call, ev_bi, ev_isi, ev_mt1, ev_lc, ev_ali, ev_mkT, ev_callT, run_tape, run_mpar, evM_nil, evM_cons, thaw_d, thaw_fr, thaw_pl, asgs, run_gset, run_gpop, glL, putG, setG, fin_next, fin_ret, fin_exc, fin_any, seq_any, evs_nil, evs_cons, evL_nil, evL_cons, evG_nil, evG_cons, evT_yes, evT_not, evT_and, evT_or, evT_ife, evT_val, evO_no, evO_so, evI_ex, evI_rng1, evI_rng2, evI_zip, evI_enm, evI_rng3, zip_tup, zip_lst, tru_bl, tru_int, R.bind_ok, FR.of_ok, seq_next, seq_ret, seq_brk, seq_cont, seq_exc, seq_ite, of_some, of_none, get_d, get_fr, get_pl, cont_dat, cont_own, cont_bor, cont_lck, frz_d, frz_fr, asg_d, asg_fr, argF, argT, gets_nil, gets_cons, ags_nil, ags_cons, ag_d, lents_d, lents_pl, lents_nil, backs_nil, backs_d, backs_pl, backW, lock_d, lock_fr, lock_pl, setW, tgD, tgsD, normW, finA, List.getElem?_cons_zero, List.getElem?_cons_succ, List.set_cons_zero, List.set_cons_succ, Option.bind_some, Option.bind_none, Option.map_some, Option.map_none, List.map_cons, List.map_nil, List.replicate, List.cons_append, List.nil_append, Bool.and_true, Bool.and_self, if_true, if_false, Bool.false_eq_true, reduceCtorEq, List.length_cons, List.length_nil, Nat.reduceAdd, Nat.reduceSub, List.all_cons, List.all_nil, List.getD_cons_zero, List.getD_cons_succ, plainVs, backV, wipeW, biD, len_lst, len_tup, len_scr, tupleD, listD, allD, intD, absD, isiD, isiO_non, isiO_bl, isiO_int, isiO_str, isiO_tup, isiO_lst, isiO_scr, len_gl, x_gl, isN, b_add, b_sub, b_mulr, b_mull, b_fdiv, b_mod, b_pow, b_shl, b_shr, b_band, b_bor, b_bxor, b_addt, b_addl, b_repl, c_eqi, c_eqs, c_eqb, c_nei, c_nes, c_lt, c_le, c_gt, c_ge, c_is, c_isn, c_isb, c_isnb, isB, c_in, x_lst, x_tup, x_scr, it_lst, it_tup, it_scr, Bool.not_true, Bool.not_false, id_eq, blsOf, intsOf, strsOf, and_self, true_and, and_true, Nat.reduceMul, Nat.reducePow, Nat.reduceLeDiff, Int.reduceLT, Int.reduceLE, Int.reduceNeg, Int.reducePow, Int.reduceToNat, Int.reduceMul, Int.reduceAdd, Int.reduceSub, List.flatten_cons, List.flatten_nil, List.append_nil, line_nil, line_n, decide_true, decide_false, addrB, hs 3]
  | _ => simp only [runs_nil, runs_cons, run_asg, run_asgT, run_par, run_aug, run_app, run_seti, run_expr, run_iff, run_whl, run_fr, run_ret, run_retN, run_pass, run_brk, run_cont, ev_var, ev_cst, ev_tup, ev_lst, ev_bin, ev_neg, ev_cmp, ev_cmp2, ev_and, ev_or, ev_not, ev_ife, ev_ix, ev_sl, ev_call, ev_bi, ev_isi, ev_mt1, ev_lc, ev_ali, ev_mkT, ev_callT, run_tape, run_mpar, evM_nil, evM_cons, thaw_d, thaw_fr, thaw_pl, asgs, run_gset, run_gpop, glL, putG, setG, fin_next, fin_ret, fin_exc, fin_any, seq_any, evs_nil, evs_cons, evL_nil, evL_cons, evG_nil, evG_cons, evT_yes, evT_not, evT_and, evT_or, evT_ife, evT_val, evO_no, evO_so, evI_ex, evI_rng1, evI_rng2, evI_zip, evI_enm, evI_rng3, zip_tup, zip_lst, tru_bl, tru_int, R.bind_ok, FR.of_ok, seq_next, seq_ret, seq_brk, seq_cont, seq_exc, seq_ite, of_some, of_none, get_d, get_fr, get_pl, cont_dat, cont_own, cont_bor, cont_lck, frz_d, frz_fr, asg_d, asg_fr, argF, argT, gets_nil, gets_cons, ags_nil, ags_cons, ag_d, lents_d, lents_pl, lents_nil, backs_nil, backs_d, backs_pl, backW, lock_d, lock_fr, lock_pl, setW, tgD, tgsD, normW, finA, List.getElem?_cons_zero, List.getElem?_cons_succ, List.set_cons_zero, List.set_cons_succ, Option.bind_some, Option.bind_none, Option.map_some, Option.map_none, List.map_cons, List.map_nil, List.replicate, List.cons_append, List.nil_append, Bool.and_true, Bool.and_self, if_true, if_false, Bool.false_eq_true, reduceCtorEq, List.length_cons, List.length_nil, Nat.reduceAdd, Nat.reduceSub, List.all_cons, List.all_nil, List.getD_cons_zero, List.getD_cons_succ, plainVs, backV, wipeW, biD, len_lst, len_tup, len_scr, tupleD, listD, allD, intD, absD, isiD, isiO_non, isiO_bl, isiO_int, isiO_str, isiO_tup, isiO_lst, isiO_scr, len_gl, x_gl, isN, b_add, b_sub, b_mulr, b_mull, b_fdiv, b_mod, b_pow, b_shl, b_shr, b_band, b_bor, b_bxor, b_addt, b_addl, b_repl, c_eqi, c_eqs, c_eqb, c_nei, c_nes, c_lt, c_le, c_gt, c_ge, c_is, c_isn, c_isb, c_isnb, isB, c_in, x_lst, x_tup, x_scr, it_lst, it_tup, it_scr, Bool.not_true, Bool.not_false, id_eq, blsOf, intsOf, strsOf, and_self, true_and, and_true, Nat.reduceMul, Nat.reducePow, Nat.reduceLeDiff, Int.reduceLT, Int.reduceLE, Int.reduceNeg, Int.reducePow, Int.reduceToNat, Int.reduceMul, Int.reduceAdd, Int.reduceSub, List.flatten_cons, List.flatten_nil, List.append_nil, line_nil, line_n, decide_true, decide_false, addrB]
def aoo (ds : List D) : D := if addrB (.tup ds) = true then .tup ds else .non
theorem ok1_tup {ds : List D} (hl : ds.length ≤ 1000) (hx : ∀ x ∈ ds, Sol x) : Ok1 (.tup ds) := ⟨sol_tup ds, fun es e => by cases e; exact ⟨hl, hx⟩⟩
theorem ok1_leaf {d : D} (h : Leaf d) : Ok1 d := ⟨sol_leaf h, fun ds e => by
  subst e
  rcases h with h | ⟨b, h⟩ | ⟨b, h⟩ | ⟨b, h⟩ <;> cases h⟩
theorem ok1_lst (ds : List D) : Ok1 (.lst ds) := ⟨sol_lst ds, fun es e => by cases e⟩
theorem of_tup (k : Nat) {ds : List D} (hl : ds.length ≤ 1000) (hx : ∀ x ∈ ds, Sol x) : callK (prg rows) (k + 3) 7 [.dat (.tup ds)] = .ok (.d (aoo ds)) [.dat (.tup ds)] := by
  rw [callK_run p7]
  unfold runF c_address_of_octets
  rw [if_pos ⟨rfl, rfl⟩]
  have h := is_address k (ok1_tup hl hx)
  unfold aoo
  cases q : addrB (.tup ds) with
  | true => rw [q] at h; simp only [runs_nil, runs_cons, run_asg, run_asgT, run_par, run_aug, run_app, run_seti, run_expr, run_iff, run_whl, run_fr, run_ret, run_retN, run_pass, run_brk, run_cont, ev_var, ev_cst, ev_tup, ev_lst, ev_bin, ev_neg, ev_cmp, ev_cmp2, ev_and, ev_or, ev_not, ev_ife, ev_ix, ev_sl, ev_call, ev_bi, ev_isi, ev_mt1, ev_lc, ev_ali, ev_mkT, ev_callT, run_tape, run_mpar, evM_nil, evM_cons, thaw_d, thaw_fr, thaw_pl, asgs, run_gset, run_gpop, glL, putG, setG, fin_next, fin_ret, fin_exc, fin_any, seq_any, evs_nil, evs_cons, evL_nil, evL_cons, evG_nil, evG_cons, evT_yes, evT_not, evT_and, evT_or, evT_ife, evT_val, evO_no, evO_so, evI_ex, evI_rng1, evI_rng2, evI_zip, evI_enm, evI_rng3, zip_tup, zip_lst, tru_bl, tru_int, R.bind_ok, FR.of_ok, seq_next, seq_ret, seq_brk, seq_cont, seq_exc, seq_ite, of_some, of_none, get_d, get_fr, get_pl, cont_dat, cont_own, cont_bor, cont_lck, frz_d, frz_fr, asg_d, asg_fr, argF, argT, gets_nil, gets_cons, ags_nil, ags_cons, ag_d, lents_d, lents_pl, lents_nil, backs_nil, backs_d, backs_pl, backW, lock_d, lock_fr, lock_pl, setW, tgD, tgsD, normW, finA, List.getElem?_cons_zero, List.getElem?_cons_succ, List.set_cons_zero, List.set_cons_succ, Option.bind_some, Option.bind_none, Option.map_some, Option.map_none, List.map_cons, List.map_nil, List.replicate, List.cons_append, List.nil_append, Bool.and_true, Bool.and_self, if_true, if_false, Bool.false_eq_true, reduceCtorEq, List.length_cons, List.length_nil, Nat.reduceAdd, Nat.reduceSub, List.all_cons, List.all_nil, List.getD_cons_zero, List.getD_cons_succ, plainVs, backV, wipeW, biD, len_lst, len_tup, len_scr, tupleD, listD, allD, intD, absD, isiD, isiO_non, isiO_bl, isiO_int, isiO_str, isiO_tup, isiO_lst, isiO_scr, len_gl, x_gl, isN, b_add, b_sub, b_mulr, b_mull, b_fdiv, b_mod, b_pow, b_shl, b_shr, b_band, b_bor, b_bxor, b_addt, b_addl, b_repl, c_eqi, c_eqs, c_eqb, c_nei, c_nes, c_lt, c_le, c_gt, c_ge, c_is, c_isn, c_isb, c_isnb, isB, c_in, x_lst, x_tup, x_scr, it_lst, it_tup, it_scr, Bool.not_true, Bool.not_false, id_eq, blsOf, intsOf, strsOf, and_self, true_and, and_true, Nat.reduceMul, Nat.reducePow, Nat.reduceLeDiff, Int.reduceLT, Int.reduceLE, Int.reduceNeg, Int.reducePow, Int.reduceToNat, Int.reduceMul, Int.reduceAdd, Int.reduceSub, List.flatten_cons, List.flatten_nil, List.append_nil, line_nil, line_n, decide_true, decide_false, callG_1 h]
  | false => rw [q] at h; simp only [runs_nil, runs_cons, run_asg, run_asgT, run_par, run_aug, run_app, run_seti, run_expr, run_iff, run_whl, run_fr, run_ret, run_retN, run_pass, run_brk, run_cont, ev_var, ev_cst, ev_tup, ev_lst, ev_bin, ev_neg, ev_cmp, ev_cmp2, ev_and, ev_or, ev_not, ev_ife, ev_ix, ev_sl, ev_call, ev_bi, ev_isi, ev_mt1, ev_lc, ev_ali, ev_mkT, ev_callT, run_tape, run_mpar, evM_nil, evM_cons, thaw_d, thaw_fr, thaw_pl, asgs, run_gset, run_gpop, glL, putG, setG, fin_next, fin_ret, fin_exc, fin_any, seq_any, evs_nil, evs_cons, evL_nil, evL_cons, evG_nil, evG_cons, evT_yes, evT_not, evT_and, evT_or, evT_ife, evT_val, evO_no, evO_so, evI_ex, evI_rng1, evI_rng2, evI_zip, evI_enm, evI_rng3, zip_tup, zip_lst, tru_bl, tru_int, R.bind_ok, FR.of_ok, seq_next, seq_ret, seq_brk, seq_cont, seq_exc, seq_ite, of_some, of_none, get_d, get_fr, get_pl, cont_dat, cont_own, cont_bor, cont_lck, frz_d, frz_fr, asg_d, asg_fr, argF, argT, gets_nil, gets_cons, ags_nil, ags_cons, ag_d, lents_d, lents_pl, lents_nil, backs_nil, backs_d, backs_pl, backW, lock_d, lock_fr, lock_pl, setW, tgD, tgsD, normW, finA, List.getElem?_cons_zero, List.getElem?_cons_succ, List.set_cons_zero, List.set_cons_succ, Option.bind_some, Option.bind_none, Option.map_some, Option.map_none, List.map_cons, List.map_nil, List.replicate, List.cons_append, List.nil_append, Bool.and_true, Bool.and_self, if_true, if_false, Bool.false_eq_true, reduceCtorEq, List.length_cons, List.length_nil, Nat.reduceAdd, Nat.reduceSub, List.all_cons, List.all_nil, List.getD_cons_zero, List.getD_cons_succ, plainVs, backV, wipeW, biD, len_lst, len_tup, len_scr, tupleD, listD, allD, intD, absD, isiD, isiO_non, isiO_bl, isiO_int, isiO_str, isiO_tup, isiO_lst, isiO_scr, len_gl, x_gl, isN, b_add, b_sub, b_mulr, b_mull, b_fdiv, b_mod, b_pow, b_shl, b_shr, b_band, b_bor, b_bxor, b_addt, b_addl, b_repl, c_eqi, c_eqs, c_eqb, c_nei, c_nes, c_lt, c_le, c_gt, c_ge, c_is, c_isn, c_isb, c_isnb, isB, c_in, x_lst, x_tup, x_scr, it_lst, it_tup, it_scr, Bool.not_true, Bool.not_false, id_eq, blsOf, intsOf, strsOf, and_self, true_and, and_true, Nat.reduceMul, Nat.reducePow, Nat.reduceLeDiff, Int.reduceLT, Int.reduceLE, Int.reduceNeg, Int.reducePow, Int.reduceToNat, Int.reduceMul, Int.reduceAdd, Int.reduceSub, List.flatten_cons, List.flatten_nil, List.append_nil, line_nil, line_n, decide_true, decide_false, callG_1 h]
theorem of_lst (k : Nat) {ds : List D} (hl : ds.length ≤ 1000) (hx : ∀ x ∈ ds, Sol x) : callK (prg rows) (k + 3) 7 [.dat (.lst ds)] = .ok (.d (aoo ds)) [.dat (.lst ds)] := by
  rw [callK_run p7]
  unfold runF c_address_of_octets
  rw [if_pos ⟨rfl, rfl⟩]
  have h := is_address k (ok1_tup hl hx)
  unfold aoo
  cases q : addrB (.tup ds) with
  | true => rw [q] at h; simp only [runs_nil, runs_cons, run_asg, run_asgT, run_par, run_aug, run_app, run_seti, run_expr, run_iff, run_whl, run_fr, run_ret, run_retN, run_pass, run_brk, run_cont, ev_var, ev_cst, ev_tup, ev_lst, ev_bin, ev_neg, ev_cmp, ev_cmp2, ev_and, ev_or, ev_not, ev_ife, ev_ix, ev_sl, ev_call, ev_bi, ev_isi, ev_mt1, ev_lc, ev_ali, ev_mkT, ev_callT, run_tape, run_mpar, evM_nil, evM_cons, thaw_d, thaw_fr, thaw_pl, asgs, run_gset, run_gpop, glL, putG, setG, fin_next, fin_ret, fin_exc, fin_any, seq_any, evs_nil, evs_cons, evL_nil, evL_cons, evG_nil, evG_cons, evT_yes, evT_not, evT_and, evT_or, evT_ife, evT_val, evO_no, evO_so, evI_ex, evI_rng1, evI_rng2, evI_zip, evI_enm, evI_rng3, zip_tup, zip_lst, tru_bl, tru_int, R.bind_ok, FR.of_ok, seq_next, seq_ret, seq_brk, seq_cont, seq_exc, seq_ite, of_some, of_none, get_d, get_fr, get_pl, cont_dat, cont_own, cont_bor, cont_lck, frz_d, frz_fr, asg_d, asg_fr, argF, argT, gets_nil, gets_cons, ags_nil, ags_cons, ag_d, lents_d, lents_pl, lents_nil, backs_nil, backs_d, backs_pl, backW, lock_d, lock_fr, lock_pl, setW, tgD, tgsD, normW, finA, List.getElem?_cons_zero, List.getElem?_cons_succ, List.set_cons_zero, List.set_cons_succ, Option.bind_some, Option.bind_none, Option.map_some, Option.map_none, List.map_cons, List.map_nil, List.replicate, List.cons_append, List.nil_append, Bool.and_true, Bool.and_self, if_true, if_false, Bool.false_eq_true, reduceCtorEq, List.length_cons, List.length_nil, Nat.reduceAdd, Nat.reduceSub, List.all_cons, List.all_nil, List.getD_cons_zero, List.getD_cons_succ, plainVs, backV, wipeW, biD, len_lst, len_tup, len_scr, tupleD, listD, allD, intD, absD, isiD, isiO_non, isiO_bl, isiO_int, isiO_str, isiO_tup, isiO_lst, isiO_scr, len_gl, x_gl, isN, b_add, b_sub, b_mulr, b_mull, b_fdiv, b_mod, b_pow, b_shl, b_shr, b_band, b_bor, b_bxor, b_addt, b_addl, b_repl, c_eqi, c_eqs, c_eqb, c_nei, c_nes, c_lt, c_le, c_gt, c_ge, c_is, c_isn, c_isb, c_isnb, isB, c_in, x_lst, x_tup, x_scr, it_lst, it_tup, it_scr, Bool.not_true, Bool.not_false, id_eq, blsOf, intsOf, strsOf, and_self, true_and, and_true, Nat.reduceMul, Nat.reducePow, Nat.reduceLeDiff, Int.reduceLT, Int.reduceLE, Int.reduceNeg, Int.reducePow, Int.reduceToNat, Int.reduceMul, Int.reduceAdd, Int.reduceSub, List.flatten_cons, List.flatten_nil, List.append_nil, line_nil, line_n, decide_true, decide_false, callG_1 h]
  | false => rw [q] at h; simp only [runs_nil, runs_cons, run_asg, run_asgT, run_par, run_aug, run_app, run_seti, run_expr, run_iff, run_whl, run_fr, run_ret, run_retN, run_pass, run_brk, run_cont, ev_var, ev_cst, ev_tup, ev_lst, ev_bin, ev_neg, ev_cmp, ev_cmp2, ev_and, ev_or, ev_not, ev_ife, ev_ix, ev_sl, ev_call, ev_bi, ev_isi, ev_mt1, ev_lc, ev_ali, ev_mkT, ev_callT, run_tape, run_mpar, evM_nil, evM_cons, thaw_d, thaw_fr, thaw_pl, asgs, run_gset, run_gpop, glL, putG, setG, fin_next, fin_ret, fin_exc, fin_any, seq_any, evs_nil, evs_cons, evL_nil, evL_cons, evG_nil, evG_cons, evT_yes, evT_not, evT_and, evT_or, evT_ife, evT_val, evO_no, evO_so, evI_ex, evI_rng1, evI_rng2, evI_zip, evI_enm, evI_rng3, zip_tup, zip_lst, tru_bl, tru_int, R.bind_ok, FR.of_ok, seq_next, seq_ret, seq_brk, seq_cont, seq_exc, seq_ite, of_some, of_none, get_d, get_fr, get_pl, cont_dat, cont_own, cont_bor, cont_lck, frz_d, frz_fr, asg_d, asg_fr, argF, argT, gets_nil, gets_cons, ags_nil, ags_cons, ag_d, lents_d, lents_pl, lents_nil, backs_nil, backs_d, backs_pl, backW, lock_d, lock_fr, lock_pl, setW, tgD, tgsD, normW, finA, List.getElem?_cons_zero, List.getElem?_cons_succ, List.set_cons_zero, List.set_cons_succ, Option.bind_some, Option.bind_none, Option.map_some, Option.map_none, List.map_cons, List.map_nil, List.replicate, List.cons_append, List.nil_append, Bool.and_true, Bool.and_self, if_true, if_false, Bool.false_eq_true, reduceCtorEq, List.length_cons, List.length_nil, Nat.reduceAdd, Nat.reduceSub, List.all_cons, List.all_nil, List.getD_cons_zero, List.getD_cons_succ, plainVs, backV, wipeW, biD, len_lst, len_tup, len_scr, tupleD, listD, allD, intD, absD, isiD, isiO_non, isiO_bl, isiO_int, isiO_str, isiO_tup, isiO_lst, isiO_scr, len_gl, x_gl, isN, b_add, b_sub, b_mulr, b_mull, b_fdiv, b_mod, b_pow, b_shl, b_shr, b_band, b_bor, b_bxor, b_addt, b_addl, b_repl, c_eqi, c_eqs, c_eqb, c_nei, c_nes, c_lt, c_le, c_gt, c_ge, c_is, c_isn, c_isb, c_isnb, isB, c_in, x_lst, x_tup, x_scr, it_lst, it_tup, it_scr, Bool.not_true, Bool.not_false, id_eq, blsOf, intsOf, strsOf, and_self, true_and, and_true, Nat.reduceMul, Nat.reducePow, Nat.reduceLeDiff, Int.reduceLT, Int.reduceLE, Int.reduceNeg, Int.reducePow, Int.reduceToNat, Int.reduceMul, Int.reduceAdd, Int.reduceSub, List.flatten_cons, List.flatten_nil, List.append_nil, line_nil, line_n, decide_true, decide_false, callG_1 h]
def noAddr : Ex := ⟨1, "InvalidAddress", .non⟩
theorem octets_of (k : Nat) {d : D} (h : Ok1 d) (hn : d ≠ .non) : callK (prg rows) (k + 3) 6 [.dat d] = if addrB d = true then .ok (.d d) [.dat d] else .exc noAddr [.dat d] := by
  rw [callK_run p6]
  unfold runF c_address_octets
  rw [if_pos ⟨rfl, rfl⟩]
  have h := is_address k h
  have hi : isN d = false := by cases d <;> first | rfl | exact absurd rfl hn
  cases q : addrB d with
  | true => rw [q] at h; simp only [runs_nil, runs_cons, run_asg, run_asgT, run_par, run_aug, run_app, run_seti, run_expr, run_iff, run_whl, run_fr, run_ret, run_retN, run_pass, run_brk, run_cont, ev_var, ev_cst, ev_tup, ev_lst, ev_bin, ev_neg, ev_cmp, ev_cmp2, ev_and, ev_or, ev_not, ev_ife, ev_ix, ev_sl, ev_call, ev_bi, ev_isi, ev_mt1, ev_lc, ev_ali, ev_mkT, ev_callT, run_tape, run_mpar, evM_nil, evM_cons, thaw_d, thaw_fr, thaw_pl, asgs, run_gset, run_gpop, glL, putG, setG, fin_next, fin_ret, fin_exc, fin_any, seq_any, evs_nil, evs_cons, evL_nil, evL_cons, evG_nil, evG_cons, evT_yes, evT_not, evT_and, evT_or, evT_ife, evT_val, evO_no, evO_so, evI_ex, evI_rng1, evI_rng2, evI_zip, evI_enm, evI_rng3, zip_tup, zip_lst, tru_bl, tru_int, R.bind_ok, FR.of_ok, seq_next, seq_ret, seq_brk, seq_cont, seq_exc, seq_ite, of_some, of_none, get_d, get_fr, get_pl, cont_dat, cont_own, cont_bor, cont_lck, frz_d, frz_fr, asg_d, asg_fr, argF, argT, gets_nil, gets_cons, ags_nil, ags_cons, ag_d, lents_d, lents_pl, lents_nil, backs_nil, backs_d, backs_pl, backW, lock_d, lock_fr, lock_pl, setW, tgD, tgsD, normW, finA, List.getElem?_cons_zero, List.getElem?_cons_succ, List.set_cons_zero, List.set_cons_succ, Option.bind_some, Option.bind_none, Option.map_some, Option.map_none, List.map_cons, List.map_nil, List.replicate, List.cons_append, List.nil_append, Bool.and_true, Bool.and_self, if_true, if_false, Bool.false_eq_true, reduceCtorEq, List.length_cons, List.length_nil, Nat.reduceAdd, Nat.reduceSub, List.all_cons, List.all_nil, List.getD_cons_zero, List.getD_cons_succ, plainVs, backV, wipeW, biD, len_lst, len_tup, len_scr, tupleD, listD, allD, intD, absD, isiD, isiO_non, isiO_bl, isiO_int, isiO_str, isiO_tup, isiO_lst, isiO_scr, len_gl, x_gl, isN, b_add, b_sub, b_mulr, b_mull, b_fdiv, b_mod, b_pow, b_shl, b_shr, b_band, b_bor, b_bxor, b_addt, b_addl, b_repl, c_eqi, c_eqs, c_eqb, c_nei, c_nes, c_lt, c_le, c_gt, c_ge, c_is, c_isn, c_isb, c_isnb, isB, c_in, x_lst, x_tup, x_scr, it_lst, it_tup, it_scr, Bool.not_true, Bool.not_false, id_eq, blsOf, intsOf, strsOf, and_self, true_and, and_true, Nat.reduceMul, Nat.reducePow, Nat.reduceLeDiff, Int.reduceLT, Int.reduceLE, Int.reduceNeg, Int.reducePow, Int.reduceToNat, Int.reduceMul, Int.reduceAdd, Int.reduceSub, List.flatten_cons, List.flatten_nil, List.append_nil, line_nil, line_n, decide_true, decide_false, callG_1 h, hi]
  | false =>
    rw [q] at h
    simp only [runs_nil, runs_cons, run_asg, run_asgT, run_par, run_aug, run_app, run_seti, run_expr, run_iff, run_whl, run_fr, run_ret, run_retN, run_pass, run_brk, run_cont, ev_var, ev_cst, ev_tup, ev_lst, ev_bin, ev_neg, ev_cmp, ev_cmp2, ev_and, ev_or, ev_not, ev_ife, ev_ix, ev_sl, ev_call, ev_bi, ev_isi, ev_mt1, ev_lc, ev_ali, ev_mkT, ev_callT, run_tape, run_mpar, evM_nil, evM_cons, thaw_d, thaw_fr, thaw_pl, asgs, run_gset, run_gpop, glL, putG, setG, fin_next, fin_ret, fin_exc, fin_any, seq_any, evs_nil, evs_cons, evL_nil, evL_cons, evG_nil, evG_cons, evT_yes, evT_not, evT_and, evT_or, evT_ife, evT_val, evO_no, evO_so, evI_ex, evI_rng1, evI_rng2, evI_zip, evI_enm, evI_rng3, zip_tup, zip_lst, tru_bl, tru_int, R.bind_ok, FR.of_ok, seq_next, seq_ret, seq_brk, seq_cont, seq_exc, seq_ite, of_some, of_none, get_d, get_fr, get_pl, cont_dat, cont_own, cont_bor, cont_lck, frz_d, frz_fr, asg_d, asg_fr, argF, argT, gets_nil, gets_cons, ags_nil, ags_cons, ag_d, lents_d, lents_pl, lents_nil, backs_nil, backs_d, backs_pl, backW, lock_d, lock_fr, lock_pl, setW, tgD, tgsD, normW, finA, List.getElem?_cons_zero, List.getElem?_cons_succ, List.set_cons_zero, List.set_cons_succ, Option.bind_some, Option.bind_none, Option.map_some, Option.map_none, List.map_cons, List.map_nil, List.replicate, List.cons_append, List.nil_append, Bool.and_true, Bool.and_self, if_true, if_false, Bool.false_eq_true, reduceCtorEq, List.length_cons, List.length_nil, Nat.reduceAdd, Nat.reduceSub, List.all_cons, List.all_nil, List.getD_cons_zero, List.getD_cons_succ, plainVs, backV, wipeW, biD, len_lst, len_tup, len_scr, tupleD, listD, allD, intD, absD, isiD, isiO_non, isiO_bl, isiO_int, isiO_str, isiO_tup, isiO_lst, isiO_scr, len_gl, x_gl, isN, b_add, b_sub, b_mulr, b_mull, b_fdiv, b_mod, b_pow, b_shl, b_shr, b_band, b_bor, b_bxor, b_addt, b_addl, b_repl, c_eqi, c_eqs, c_eqb, c_nei, c_nes, c_lt, c_le, c_gt, c_ge, c_is, c_isn, c_isb, c_isnb, isB, c_in, x_lst, x_tup, x_scr, it_lst, it_tup, it_scr, Bool.not_true, Bool.not_false, id_eq, blsOf, intsOf, strsOf, and_self, true_and, and_true, Nat.reduceMul, Nat.reducePow, Nat.reduceLeDiff, Int.reduceLT, Int.reduceLE, Int.reduceNeg, Int.reducePow, Int.reduceToNat, Int.reduceMul, Int.reduceAdd, Int.reduceSub, List.flatten_cons, List.flatten_nil, List.append_nil, line_nil, line_n, decide_true, decide_false, callG_1 h, hi]
    rfl
theorem octets_non (k : Nat) : callK (prg rows) (k + 3) 6 [.dat .non] = .ok (.d (.tup [.int 0, .int 0])) [.dat .non] := by kernel_rfl
def askT (hw boot n : Int) : D := .tup [.int 1, .int hw, .int boot, .int (n / 256 % 256), .int (n % 256)]
def ansT (hw boot n a b : Int) : D := .tup [.int 2, .int hw, .int boot, .int (n / 256 % 256), .int (n % 256), .int a, .int b]
theorem lease_ask (k : Nat) (hw boot n : Int) : callK (prg rows) (k + 2) 10 [.dat (.int hw), .dat (.int boot), .dat (.int n)] = .ok (.d (askT hw boot n)) [.dat (.int hw), .dat (.int boot), .dat (.int n)] := by
  rw [callK_run p10]
  unfold runF c_lease_ask
  rw [if_pos ⟨rfl, rfl⟩]
  simp only [runs_nil, runs_cons, run_asg, run_asgT, run_par, run_aug, run_app, run_seti, run_expr, run_iff, run_whl, run_fr, run_ret, run_retN, run_pass, run_brk, run_cont, ev_var, ev_cst, ev_tup, ev_lst, ev_bin, ev_neg, ev_cmp, ev_cmp2, ev_and, ev_or, ev_not, ev_ife, ev_ix, ev_sl, ev_call, ev_bi, ev_isi, ev_mt1, ev_lc, ev_ali, ev_mkT, ev_callT, run_tape, run_mpar, evM_nil, evM_cons, thaw_d, thaw_fr, thaw_pl, asgs, run_gset, run_gpop, glL, putG, setG, fin_next, fin_ret, fin_exc, fin_any, seq_any, evs_nil, evs_cons, evL_nil, evL_cons, evG_nil, evG_cons, evT_yes, evT_not, evT_and, evT_or, evT_ife, evT_val, evO_no, evO_so, evI_ex, evI_rng1, evI_rng2, evI_zip, evI_enm, evI_rng3, zip_tup, zip_lst, tru_bl, tru_int, R.bind_ok, FR.of_ok, seq_next, seq_ret, seq_brk, seq_cont, seq_exc, seq_ite, of_some, of_none, get_d, get_fr, get_pl, cont_dat, cont_own, cont_bor, cont_lck, frz_d, frz_fr, asg_d, asg_fr, argF, argT, gets_nil, gets_cons, ags_nil, ags_cons, ag_d, lents_d, lents_pl, lents_nil, backs_nil, backs_d, backs_pl, backW, lock_d, lock_fr, lock_pl, setW, tgD, tgsD, normW, finA, List.getElem?_cons_zero, List.getElem?_cons_succ, List.set_cons_zero, List.set_cons_succ, Option.bind_some, Option.bind_none, Option.map_some, Option.map_none, List.map_cons, List.map_nil, List.replicate, List.cons_append, List.nil_append, Bool.and_true, Bool.and_self, if_true, if_false, Bool.false_eq_true, reduceCtorEq, List.length_cons, List.length_nil, Nat.reduceAdd, Nat.reduceSub, List.all_cons, List.all_nil, List.getD_cons_zero, List.getD_cons_succ, plainVs, backV, wipeW, biD, len_lst, len_tup, len_scr, tupleD, listD, allD, intD, absD, isiD, isiO_non, isiO_bl, isiO_int, isiO_str, isiO_tup, isiO_lst, isiO_scr, len_gl, x_gl, isN, b_add, b_sub, b_mulr, b_mull, b_fdiv, b_mod, b_pow, b_shl, b_shr, b_band, b_bor, b_bxor, b_addt, b_addl, b_repl, c_eqi, c_eqs, c_eqb, c_nei, c_nes, c_lt, c_le, c_gt, c_ge, c_is, c_isn, c_isb, c_isnb, isB, c_in, x_lst, x_tup, x_scr, it_lst, it_tup, it_scr, Bool.not_true, Bool.not_false, id_eq, blsOf, intsOf, strsOf, and_self, true_and, and_true, Nat.reduceMul, Nat.reducePow, Nat.reduceLeDiff, Int.reduceLT, Int.reduceLE, Int.reduceNeg, Int.reducePow, Int.reduceToNat, Int.reduceMul, Int.reduceAdd, Int.reduceSub, List.flatten_cons, List.flatten_nil, List.append_nil, line_nil, line_n, decide_true, decide_false, callG_2 (octet_pairs k n), askT]
theorem lease_answer (k : Nat) (hw boot n : Int) {a b : Int} (h : addrB (.tup [.int a, .int b]) = true) : callK (prg rows) (k + 4) 11 [.dat (.int hw), .dat (.int boot), .dat (.int n), .dat (.tup [.int a, .int b])] = .ok (.d (ansT hw boot n a b)) [.dat (.int hw), .dat (.int boot), .dat (.int n), .dat (.tup [.int a, .int b])] := by
  rw [callK_run p11]
  unfold runF c_lease_answer
  rw [if_pos ⟨rfl, rfl⟩]
  have h2 := octets_of k (d := .tup [.int a, .int b]) (ok1_tup (by decide : 2 ≤ 1000) (fa_cons (sol_int _) (fa_cons (sol_int _) fa_nil))) (by simp)
  rw [if_pos h] at h2
  simp only [runs_nil, runs_cons, run_asg, run_asgT, run_par, run_aug, run_app, run_seti, run_expr, run_iff, run_whl, run_fr, run_ret, run_retN, run_pass, run_brk, run_cont, ev_var, ev_cst, ev_tup, ev_lst, ev_bin, ev_neg, ev_cmp, ev_cmp2, ev_and, ev_or, ev_not, ev_ife, ev_ix, ev_sl, ev_call, ev_bi, ev_isi, ev_mt1, ev_lc, ev_ali, ev_mkT, ev_callT, run_tape, run_mpar, evM_nil, evM_cons, thaw_d, thaw_fr, thaw_pl, asgs, run_gset, run_gpop, glL, putG, setG, fin_next, fin_ret, fin_exc, fin_any, seq_any, evs_nil, evs_cons, evL_nil, evL_cons, evG_nil, evG_cons, evT_yes, evT_not, evT_and, evT_or, evT_ife, evT_val, evO_no, evO_so, evI_ex, evI_rng1, evI_rng2, evI_zip, evI_enm, evI_rng3, zip_tup, zip_lst, tru_bl, tru_int, R.bind_ok, FR.of_ok, seq_next, seq_ret, seq_brk, seq_cont, seq_exc, seq_ite, of_some, of_none, get_d, get_fr, get_pl, cont_dat, cont_own, cont_bor, cont_lck, frz_d, frz_fr, asg_d, asg_fr, argF, argT, gets_nil, gets_cons, ags_nil, ags_cons, ag_d, lents_d, lents_pl, lents_nil, backs_nil, backs_d, backs_pl, backW, lock_d, lock_fr, lock_pl, setW, tgD, tgsD, normW, finA, List.getElem?_cons_zero, List.getElem?_cons_succ, List.set_cons_zero, List.set_cons_succ, Option.bind_some, Option.bind_none, Option.map_some, Option.map_none, List.map_cons, List.map_nil, List.replicate, List.cons_append, List.nil_append, Bool.and_true, Bool.and_self, if_true, if_false, Bool.false_eq_true, reduceCtorEq, List.length_cons, List.length_nil, Nat.reduceAdd, Nat.reduceSub, List.all_cons, List.all_nil, List.getD_cons_zero, List.getD_cons_succ, plainVs, backV, wipeW, biD, len_lst, len_tup, len_scr, tupleD, listD, allD, intD, absD, isiD, isiO_non, isiO_bl, isiO_int, isiO_str, isiO_tup, isiO_lst, isiO_scr, len_gl, x_gl, isN, b_add, b_sub, b_mulr, b_mull, b_fdiv, b_mod, b_pow, b_shl, b_shr, b_band, b_bor, b_bxor, b_addt, b_addl, b_repl, c_eqi, c_eqs, c_eqb, c_nei, c_nes, c_lt, c_le, c_gt, c_ge, c_is, c_isn, c_isb, c_isnb, isB, c_in, x_lst, x_tup, x_scr, it_lst, it_tup, it_scr, Bool.not_true, Bool.not_false, id_eq, blsOf, intsOf, strsOf, and_self, true_and, and_true, Nat.reduceMul, Nat.reducePow, Nat.reduceLeDiff, Int.reduceLT, Int.reduceLE, Int.reduceNeg, Int.reducePow, Int.reduceToNat, Int.reduceMul, Int.reduceAdd, Int.reduceSub, List.flatten_cons, List.flatten_nil, List.append_nil, line_nil, line_n, decide_true, decide_false, callG_2 (octet_pairs (k + 2) n), callG_1 h2, ansT]

theorem e21 : ((2 : Int) = 1) = False := eq_false (by decide)
theorem e12 : ((1 : Int) = 2) = False := eq_false (by decide)
theorem e57 : ((5 : Int) = 7) = False := eq_false (by decide)
theorem e75 : ((7 : Int) = 5) = False := eq_false (by decide)
theorem sl_tup (xs : List D) (lo hi : Option Int) : slD (.tup xs) lo hi = some (.d (.tup (cutD xs lo hi))) := rfl
theorem in57t (n : Int) : inD (.int n) (.tup [.int 5, .int 7]) = some (decide (n = 5) || decide (n = 7)) := by
  show some ([D.int 5, D.int 7].any fun z => eqF z (.int n)) = _
  by_cases h5 : n = 5
  · subst h5; rfl
  · by_cases h7 : n = 7
    · subst h7; rfl
    · have e5 : ((5 : Int) == n) = false := beq_eq_false_iff_ne.mpr (Ne.symm h5)
      have e7 : ((7 : Int) == n) = false := beq_eq_false_iff_ne.mpr (Ne.symm h7)
      simp only [List.any_cons, List.any_nil, eqF, e5, e7, h5, h7, decide_false, Bool.or_self]
theorem in57l (n : Int) : inD (.int n) (.lst [.int 5, .int 7]) = some (decide (n = 5) || decide (n = 7)) := by
  show some ([D.int 5, D.int 7].any fun z => eqF z (.int n)) = _
  by_cases h5 : n = 5
  · subst h5; rfl
  · by_cases h7 : n = 7
    · subst h7; rfl
    · have e5 : ((5 : Int) == n) = false := beq_eq_false_iff_ne.mpr (Ne.symm h5)
      have e7 : ((7 : Int) == n) = false := beq_eq_false_iff_ne.mpr (Ne.symm h7)
      simp only [List.any_cons, List.any_nil, eqF, e5, e7, h5, h7, decide_false, Bool.or_self]
theorem ints_of : ∀ {ds : List D}, ds.all (isLess 256) = true → ∃ is : List Int, ds = is.map D.int ∧ ∀ i ∈ is, 0 ≤ i ∧ i < 256
  | [], _ => ⟨[], rfl, fun _ h => by cases h⟩
  | d :: ds, h => by
    rw [List.all_cons, Bool.and_eq_true] at h
    obtain ⟨is, e, p⟩ := ints_of h.2
    cases d with
    | int i =>
      have hi := h.1
      unfold isLess at hi
      simp only [Bool.and_eq_true, decide_eq_true_eq] at hi
      refine ⟨i :: is, by rw [e]; rfl, fun j hj => ?_⟩
      rcases List.mem_cons.mp hj with z | z
      · rw [z]; exact hi
      · exact p j z
    | _ => cases h.1
def wordD : List D → D
  | [.int a, .int b, .int c, .int d, .int e] => if hwB 200 (.int b) = true then (if hwB 201 (.int c) = true then (if a = 1 then .tup [.str "ask", .int b, .int c, .int (d * 256 + e)] else .non) else .non) else .non
  | [.int a, .int b, .int c, .int d, .int e, .int f, .int g] => if hwB 200 (.int b) = true then (if hwB 201 (.int c) = true then (if a = 2 then (if addrB (.tup [.int f, .int g]) = true then .tup [.str "answer", .int b, .int c, .int (d * 256 + e), .tup [.int f, .int g]] else .non) else .non) else .non) else .non
  | _ => .non
def wordP (ds : List D) : D := if ds.all (isLess 256) = true then wordD ds else .non
theorem wordD_no {is : List Int} (h5 : is.length ≠ 5) (h7 : is.length ≠ 7) : wordD (is.map D.int) = .non := by
  match is, h5, h7 with
  | [], _, _ => rfl
  | [_], _, _ => rfl
  | [_, _], _, _ => rfl
  | [_, _, _], _, _ => rfl
  | [_, _, _, _], _, _ => rfl
  | [_, _, _, _, _], h, _ => exact absurd rfl h
  | [_, _, _, _, _, _], _, _ => rfl
  | [_, _, _, _, _, _, _], _, h => exact absurd rfl h
  | _ :: _ :: _ :: _ :: _ :: _ :: _ :: _ :: _, _, _ => rfl
theorem len57 {is : List Int} : (is.length ≠ 5 ∧ is.length ≠ 7) ∨ (∃ a b c d e, is = [a, b, c, d, e]) ∨ ∃ a b c d e f g, is = [a, b, c, d, e, f, g] := by
  match is with
  | [] => exact .inl (by simp)
  | [_] => exact .inl (by simp)
  | [_, _] => exact .inl (by simp)
  | [_, _, _] => exact .inl (by simp)
  | [_, _, _, _] => exact .inl (by simp)
  | [a, b, c, d, e] => exact .inr (.inl ⟨a, b, c, d, e, rfl⟩)
  | [_, _, _, _, _, _] => exact .inl (by simp)
  | [a, b, c, d, e, f, g] => exact .inr (.inr ⟨a, b, c, d, e, f, g, rfl⟩)
  | _ :: _ :: _ :: _ :: _ :: _ :: _ :: _ :: _ => exact .inl (by simp)
theorem number_of2 (k : Nat) (a b : Int) : callK (prg rows) (k + 1) 4 [.dat (.tup [.int a, .int b])] = .ok (.d (.int (a * 256 + b))) [.dat (.tup [.int a, .int b])] := by
  rw [number_of, show 256 * (256 * 0 + a) + b = a * 256 + b by omega]
theorem cut5 (a b c d e : D) : cutD [a, b, c, d, e] (some 3) (some 5) = [d, e] := rfl
theorem cut5b (a b c d e : D) : cutD [a, b, c, d, e] (some 5) none = [] := rfl
theorem cut7 (a b c d e f g : D) : cutD [a, b, c, d, e, f, g] (some 3) (some 5) = [d, e] := rfl
theorem cut7b (a b c d e f g : D) : cutD [a, b, c, d, e, f, g] (some 5) none = [f, g] := rfl
theorem at_1 {a b : D} {l : List D} : L2.atI (a :: b :: l) 1 = some b := by
  rw [at_nat (by decide) (by simp; omega)]; rfl
theorem at_2 {a b c : D} {l : List D} : L2.atI (a :: b :: c :: l) 2 = some c := by
  rw [at_nat (by decide) (by simp; omega)]; rfl
theorem at_3 {a b c d : D} {l : List D} : L2.atI (a :: b :: c :: d :: l) 3 = some d := by
  rw [at_nat (by decide) (by simp; omega)]; rfl
theorem at_4 {a b c d e : D} {l : List D} : L2.atI (a :: b :: c :: d :: e :: l) 4 = some e := by
  rw [at_nat (by decide) (by simp; omega)]; rfl
theorem at_5 {a b c d e f : D} {l : List D} : L2.atI (a :: b :: c :: d :: e :: f :: l) 5 = some f := by
  rw [at_nat (by decide) (by simp; omega)]; rfl
theorem at_6 {a b c d e f g : D} {l : List D} : L2.atI (a :: b :: c :: d :: e :: f :: g :: l) 6 = some g := by
  rw [at_nat (by decide) (by simp; omega)]; rfl
theorem aoo_nil : aoo [] = .non := rfl
theorem word1 (k : Nat) {ds : List D} (hl : ds.length ≤ 1000) (hx : ∀ x ∈ ds, Sol x) : callK (prg rows) (k + 5) 12 [.dat (.tup ds)] = .ok (.d (wordP ds)) [.dat (.tup ds)] := by
  have ho := are_octets (k + 1) (sol_tup ds) (fun es e => by cases e; exact ⟨line_k hl, hx⟩)
  rw [callK_run p12]
  unfold runF c_lease_word
  rw [if_pos ⟨rfl, rfl⟩]
  unfold wordP
  cases q : ds.all (isLess 256) with
  | false =>
    have ho' : callK (prg rows) (k + 4) 2 [.dat (.tup ds)] = .ok (.d (.bl false)) [.dat (.tup ds)] := by
      rw [← q]; exact ho
    simp only [runs_nil, runs_cons, run_asg, run_asgT, run_par, run_aug, run_app, run_seti, run_expr, run_iff, run_whl, run_fr, run_ret, run_retN, run_pass, run_brk, run_cont, ev_var, ev_cst, ev_tup, ev_lst, ev_bin, ev_neg, ev_cmp, ev_cmp2, ev_and, ev_or, ev_not, ev_ife, ev_ix, ev_sl, ev_call, ev_bi, ev_isi, ev_mt1, ev_lc, ev_ali, ev_mkT, ev_callT, run_tape, run_mpar, evM_nil, evM_cons, thaw_d, thaw_fr, thaw_pl, asgs, run_gset, run_gpop, glL, putG, setG, fin_next, fin_ret, fin_exc, fin_any, seq_any, evs_nil, evs_cons, evL_nil, evL_cons, evG_nil, evG_cons, evT_yes, evT_not, evT_and, evT_or, evT_ife, evT_val, evO_no, evO_so, evI_ex, evI_rng1, evI_rng2, evI_zip, evI_enm, evI_rng3, zip_tup, zip_lst, tru_bl, tru_int, R.bind_ok, FR.of_ok, seq_next, seq_ret, seq_brk, seq_cont, seq_exc, seq_ite, of_some, of_none, get_d, get_fr, get_pl, cont_dat, cont_own, cont_bor, cont_lck, frz_d, frz_fr, asg_d, asg_fr, argF, argT, gets_nil, gets_cons, ags_nil, ags_cons, ag_d, lents_d, lents_pl, lents_nil, backs_nil, backs_d, backs_pl, backW, lock_d, lock_fr, lock_pl, setW, tgD, tgsD, normW, finA, List.getElem?_cons_zero, List.getElem?_cons_succ, List.set_cons_zero, List.set_cons_succ, Option.bind_some, Option.bind_none, Option.map_some, Option.map_none, List.map_cons, List.map_nil, List.replicate, List.cons_append, List.nil_append, Bool.and_true, Bool.and_self, if_true, if_false, Bool.false_eq_true, reduceCtorEq, List.length_cons, List.length_nil, Nat.reduceAdd, Nat.reduceSub, List.all_cons, List.all_nil, List.getD_cons_zero, List.getD_cons_succ, plainVs, backV, wipeW, biD, len_lst, len_tup, len_scr, tupleD, listD, allD, intD, absD, isiD, isiO_non, isiO_bl, isiO_int, isiO_str, isiO_tup, isiO_lst, isiO_scr, len_gl, x_gl, isN, b_add, b_sub, b_mulr, b_mull, b_fdiv, b_mod, b_pow, b_shl, b_shr, b_band, b_bor, b_bxor, b_addt, b_addl, b_repl, c_eqi, c_eqs, c_eqb, c_nei, c_nes, c_lt, c_le, c_gt, c_ge, c_is, c_isn, c_isb, c_isnb, isB, c_in, x_lst, x_tup, x_scr, it_lst, it_tup, it_scr, Bool.not_true, Bool.not_false, id_eq, blsOf, intsOf, strsOf, and_self, true_and, and_true, Nat.reduceMul, Nat.reducePow, Nat.reduceLeDiff, Int.reduceLT, Int.reduceLE, Int.reduceNeg, Int.reducePow, Int.reduceToNat, Int.reduceMul, Int.reduceAdd, Int.reduceSub, List.flatten_cons, List.flatten_nil, List.append_nil, line_nil, line_n, decide_true, decide_false, e21, e12, e57, e75, callG_1 ho']
  | true =>
    have ho' : callK (prg rows) (k + 4) 2 [.dat (.tup ds)] = .ok (.d (.bl true)) [.dat (.tup ds)] := by
      rw [← q]; exact ho
    obtain ⟨is, rfl, _⟩ := ints_of q
    rcases len57 (is := is) with ⟨h5, h7⟩ | ⟨a, b, c, d, e, rfl⟩ | ⟨a, b, c, d, e, f, g, rfl⟩
    · rw [if_pos rfl, wordD_no h5 h7]
      have i5 : ¬ ((is.length : Nat) : Int) = 5 := by omega
      have i7 : ¬ ((is.length : Nat) : Int) = 7 := by omega
      simp only [runs_nil, runs_cons, run_asg, run_asgT, run_par, run_aug, run_app, run_seti, run_expr, run_iff, run_whl, run_fr, run_ret, run_retN, run_pass, run_brk, run_cont, ev_var, ev_cst, ev_tup, ev_lst, ev_bin, ev_neg, ev_cmp, ev_cmp2, ev_and, ev_or, ev_not, ev_ife, ev_ix, ev_sl, ev_call, ev_bi, ev_isi, ev_mt1, ev_lc, ev_ali, ev_mkT, ev_callT, run_tape, run_mpar, evM_nil, evM_cons, thaw_d, thaw_fr, thaw_pl, asgs, run_gset, run_gpop, glL, putG, setG, fin_next, fin_ret, fin_exc, fin_any, seq_any, evs_nil, evs_cons, evL_nil, evL_cons, evG_nil, evG_cons, evT_yes, evT_not, evT_and, evT_or, evT_ife, evT_val, evO_no, evO_so, evI_ex, evI_rng1, evI_rng2, evI_zip, evI_enm, evI_rng3, zip_tup, zip_lst, tru_bl, tru_int, R.bind_ok, FR.of_ok, seq_next, seq_ret, seq_brk, seq_cont, seq_exc, seq_ite, of_some, of_none, get_d, get_fr, get_pl, cont_dat, cont_own, cont_bor, cont_lck, frz_d, frz_fr, asg_d, asg_fr, argF, argT, gets_nil, gets_cons, ags_nil, ags_cons, ag_d, lents_d, lents_pl, lents_nil, backs_nil, backs_d, backs_pl, backW, lock_d, lock_fr, lock_pl, setW, tgD, tgsD, normW, finA, List.getElem?_cons_zero, List.getElem?_cons_succ, List.set_cons_zero, List.set_cons_succ, Option.bind_some, Option.bind_none, Option.map_some, Option.map_none, List.map_cons, List.map_nil, List.replicate, List.cons_append, List.nil_append, Bool.and_true, Bool.and_self, if_true, if_false, Bool.false_eq_true, reduceCtorEq, List.length_cons, List.length_nil, Nat.reduceAdd, Nat.reduceSub, List.all_cons, List.all_nil, List.getD_cons_zero, List.getD_cons_succ, plainVs, backV, wipeW, biD, len_lst, len_tup, len_scr, tupleD, listD, allD, intD, absD, isiD, isiO_non, isiO_bl, isiO_int, isiO_str, isiO_tup, isiO_lst, isiO_scr, len_gl, x_gl, isN, b_add, b_sub, b_mulr, b_mull, b_fdiv, b_mod, b_pow, b_shl, b_shr, b_band, b_bor, b_bxor, b_addt, b_addl, b_repl, c_eqi, c_eqs, c_eqb, c_nei, c_nes, c_lt, c_le, c_gt, c_ge, c_is, c_isn, c_isb, c_isnb, isB, c_in, x_lst, x_tup, x_scr, it_lst, it_tup, it_scr, Bool.not_true, Bool.not_false, id_eq, blsOf, intsOf, strsOf, and_self, true_and, and_true, Nat.reduceMul, Nat.reducePow, Nat.reduceLeDiff, Int.reduceLT, Int.reduceLE, Int.reduceNeg, Int.reducePow, Int.reduceToNat, Int.reduceMul, Int.reduceAdd, Int.reduceSub, List.flatten_cons, List.flatten_nil, List.append_nil, line_nil, line_n, decide_true, decide_false, e21, e12, e57, e75, callG_1 ho', c_nin, in57t, List.length_map, i5, i7, Bool.or_false, Bool.or_true, Bool.true_or, Bool.false_or]
    · simp only [List.map_cons, List.map_nil] at ho' ⊢
      have h8 := is_hardware (k + 2) (sol_int b)
      have h9 := is_boot (k + 2) (sol_int c)
      have h4 := number_of2 (k + 3) d e
      have h7 := of_tup (k + 1) (ds := []) (by decide : 0 ≤ 1000) fa_nil
      rw [aoo_nil] at h7
      unfold wordD
      cases q1 : hwB 200 (.int b) with
      | false => rw [q1] at h8; simp only [runs_nil, runs_cons, run_asg, run_asgT, run_par, run_aug, run_app, run_seti, run_expr, run_iff, run_whl, run_fr, run_ret, run_retN, run_pass, run_brk, run_cont, ev_var, ev_cst, ev_tup, ev_lst, ev_bin, ev_neg, ev_cmp, ev_cmp2, ev_and, ev_or, ev_not, ev_ife, ev_ix, ev_sl, ev_call, ev_bi, ev_isi, ev_mt1, ev_lc, ev_ali, ev_mkT, ev_callT, run_tape, run_mpar, evM_nil, evM_cons, thaw_d, thaw_fr, thaw_pl, asgs, run_gset, run_gpop, glL, putG, setG, fin_next, fin_ret, fin_exc, fin_any, seq_any, evs_nil, evs_cons, evL_nil, evL_cons, evG_nil, evG_cons, evT_yes, evT_not, evT_and, evT_or, evT_ife, evT_val, evO_no, evO_so, evI_ex, evI_rng1, evI_rng2, evI_zip, evI_enm, evI_rng3, zip_tup, zip_lst, tru_bl, tru_int, R.bind_ok, FR.of_ok, seq_next, seq_ret, seq_brk, seq_cont, seq_exc, seq_ite, of_some, of_none, get_d, get_fr, get_pl, cont_dat, cont_own, cont_bor, cont_lck, frz_d, frz_fr, asg_d, asg_fr, argF, argT, gets_nil, gets_cons, ags_nil, ags_cons, ag_d, lents_d, lents_pl, lents_nil, backs_nil, backs_d, backs_pl, backW, lock_d, lock_fr, lock_pl, setW, tgD, tgsD, normW, finA, List.getElem?_cons_zero, List.getElem?_cons_succ, List.set_cons_zero, List.set_cons_succ, Option.bind_some, Option.bind_none, Option.map_some, Option.map_none, List.map_cons, List.map_nil, List.replicate, List.cons_append, List.nil_append, Bool.and_true, Bool.and_self, if_true, if_false, Bool.false_eq_true, reduceCtorEq, List.length_cons, List.length_nil, Nat.reduceAdd, Nat.reduceSub, List.all_cons, List.all_nil, List.getD_cons_zero, List.getD_cons_succ, plainVs, backV, wipeW, biD, len_lst, len_tup, len_scr, tupleD, listD, allD, intD, absD, isiD, isiO_non, isiO_bl, isiO_int, isiO_str, isiO_tup, isiO_lst, isiO_scr, len_gl, x_gl, isN, b_add, b_sub, b_mulr, b_mull, b_fdiv, b_mod, b_pow, b_shl, b_shr, b_band, b_bor, b_bxor, b_addt, b_addl, b_repl, c_eqi, c_eqs, c_eqb, c_nei, c_nes, c_lt, c_le, c_gt, c_ge, c_is, c_isn, c_isb, c_isnb, isB, c_in, x_lst, x_tup, x_scr, it_lst, it_tup, it_scr, Bool.not_true, Bool.not_false, id_eq, blsOf, intsOf, strsOf, and_self, true_and, and_true, Nat.reduceMul, Nat.reducePow, Nat.reduceLeDiff, Int.reduceLT, Int.reduceLE, Int.reduceNeg, Int.reducePow, Int.reduceToNat, Int.reduceMul, Int.reduceAdd, Int.reduceSub, List.flatten_cons, List.flatten_nil, List.append_nil, line_nil, line_n, decide_true, decide_false, e21, e12, e57, e75, q1, callG_1 ho', c_nin, in57t, n5, at_1, callG_1 h8, Bool.or_false, Bool.or_true, Bool.true_or, Bool.false_or]
      | true =>
        rw [q1] at h8
        cases q2 : hwB 201 (.int c) with
        | false => rw [q2] at h9; simp only [runs_nil, runs_cons, run_asg, run_asgT, run_par, run_aug, run_app, run_seti, run_expr, run_iff, run_whl, run_fr, run_ret, run_retN, run_pass, run_brk, run_cont, ev_var, ev_cst, ev_tup, ev_lst, ev_bin, ev_neg, ev_cmp, ev_cmp2, ev_and, ev_or, ev_not, ev_ife, ev_ix, ev_sl, ev_call, ev_bi, ev_isi, ev_mt1, ev_lc, ev_ali, ev_mkT, ev_callT, run_tape, run_mpar, evM_nil, evM_cons, thaw_d, thaw_fr, thaw_pl, asgs, run_gset, run_gpop, glL, putG, setG, fin_next, fin_ret, fin_exc, fin_any, seq_any, evs_nil, evs_cons, evL_nil, evL_cons, evG_nil, evG_cons, evT_yes, evT_not, evT_and, evT_or, evT_ife, evT_val, evO_no, evO_so, evI_ex, evI_rng1, evI_rng2, evI_zip, evI_enm, evI_rng3, zip_tup, zip_lst, tru_bl, tru_int, R.bind_ok, FR.of_ok, seq_next, seq_ret, seq_brk, seq_cont, seq_exc, seq_ite, of_some, of_none, get_d, get_fr, get_pl, cont_dat, cont_own, cont_bor, cont_lck, frz_d, frz_fr, asg_d, asg_fr, argF, argT, gets_nil, gets_cons, ags_nil, ags_cons, ag_d, lents_d, lents_pl, lents_nil, backs_nil, backs_d, backs_pl, backW, lock_d, lock_fr, lock_pl, setW, tgD, tgsD, normW, finA, List.getElem?_cons_zero, List.getElem?_cons_succ, List.set_cons_zero, List.set_cons_succ, Option.bind_some, Option.bind_none, Option.map_some, Option.map_none, List.map_cons, List.map_nil, List.replicate, List.cons_append, List.nil_append, Bool.and_true, Bool.and_self, if_true, if_false, Bool.false_eq_true, reduceCtorEq, List.length_cons, List.length_nil, Nat.reduceAdd, Nat.reduceSub, List.all_cons, List.all_nil, List.getD_cons_zero, List.getD_cons_succ, plainVs, backV, wipeW, biD, len_lst, len_tup, len_scr, tupleD, listD, allD, intD, absD, isiD, isiO_non, isiO_bl, isiO_int, isiO_str, isiO_tup, isiO_lst, isiO_scr, len_gl, x_gl, isN, b_add, b_sub, b_mulr, b_mull, b_fdiv, b_mod, b_pow, b_shl, b_shr, b_band, b_bor, b_bxor, b_addt, b_addl, b_repl, c_eqi, c_eqs, c_eqb, c_nei, c_nes, c_lt, c_le, c_gt, c_ge, c_is, c_isn, c_isb, c_isnb, isB, c_in, x_lst, x_tup, x_scr, it_lst, it_tup, it_scr, Bool.not_true, Bool.not_false, id_eq, blsOf, intsOf, strsOf, and_self, true_and, and_true, Nat.reduceMul, Nat.reducePow, Nat.reduceLeDiff, Int.reduceLT, Int.reduceLE, Int.reduceNeg, Int.reducePow, Int.reduceToNat, Int.reduceMul, Int.reduceAdd, Int.reduceSub, List.flatten_cons, List.flatten_nil, List.append_nil, line_nil, line_n, decide_true, decide_false, e21, e12, e57, e75, q1, q2, callG_1 ho', c_nin, in57t, n5, at_1, at_2, callG_1 h8, callG_1 h9, Bool.or_false, Bool.or_true, Bool.true_or, Bool.false_or]
        | true =>
          rw [q2] at h9
          by_cases q3 : a = 1
          · subst q3
            simp only [runs_nil, runs_cons, run_asg, run_asgT, run_par, run_aug, run_app, run_seti, run_expr, run_iff, run_whl, run_fr, run_ret, run_retN, run_pass, run_brk, run_cont, ev_var, ev_cst, ev_tup, ev_lst, ev_bin, ev_neg, ev_cmp, ev_cmp2, ev_and, ev_or, ev_not, ev_ife, ev_ix, ev_sl, ev_call, ev_bi, ev_isi, ev_mt1, ev_lc, ev_ali, ev_mkT, ev_callT, run_tape, run_mpar, evM_nil, evM_cons, thaw_d, thaw_fr, thaw_pl, asgs, run_gset, run_gpop, glL, putG, setG, fin_next, fin_ret, fin_exc, fin_any, seq_any, evs_nil, evs_cons, evL_nil, evL_cons, evG_nil, evG_cons, evT_yes, evT_not, evT_and, evT_or, evT_ife, evT_val, evO_no, evO_so, evI_ex, evI_rng1, evI_rng2, evI_zip, evI_enm, evI_rng3, zip_tup, zip_lst, tru_bl, tru_int, R.bind_ok, FR.of_ok, seq_next, seq_ret, seq_brk, seq_cont, seq_exc, seq_ite, of_some, of_none, get_d, get_fr, get_pl, cont_dat, cont_own, cont_bor, cont_lck, frz_d, frz_fr, asg_d, asg_fr, argF, argT, gets_nil, gets_cons, ags_nil, ags_cons, ag_d, lents_d, lents_pl, lents_nil, backs_nil, backs_d, backs_pl, backW, lock_d, lock_fr, lock_pl, setW, tgD, tgsD, normW, finA, List.getElem?_cons_zero, List.getElem?_cons_succ, List.set_cons_zero, List.set_cons_succ, Option.bind_some, Option.bind_none, Option.map_some, Option.map_none, List.map_cons, List.map_nil, List.replicate, List.cons_append, List.nil_append, Bool.and_true, Bool.and_self, if_true, if_false, Bool.false_eq_true, reduceCtorEq, List.length_cons, List.length_nil, Nat.reduceAdd, Nat.reduceSub, List.all_cons, List.all_nil, List.getD_cons_zero, List.getD_cons_succ, plainVs, backV, wipeW, biD, len_lst, len_tup, len_scr, tupleD, listD, allD, intD, absD, isiD, isiO_non, isiO_bl, isiO_int, isiO_str, isiO_tup, isiO_lst, isiO_scr, len_gl, x_gl, isN, b_add, b_sub, b_mulr, b_mull, b_fdiv, b_mod, b_pow, b_shl, b_shr, b_band, b_bor, b_bxor, b_addt, b_addl, b_repl, c_eqi, c_eqs, c_eqb, c_nei, c_nes, c_lt, c_le, c_gt, c_ge, c_is, c_isn, c_isb, c_isnb, isB, c_in, x_lst, x_tup, x_scr, it_lst, it_tup, it_scr, Bool.not_true, Bool.not_false, id_eq, blsOf, intsOf, strsOf, and_self, true_and, and_true, Nat.reduceMul, Nat.reducePow, Nat.reduceLeDiff, Int.reduceLT, Int.reduceLE, Int.reduceNeg, Int.reducePow, Int.reduceToNat, Int.reduceMul, Int.reduceAdd, Int.reduceSub, List.flatten_cons, List.flatten_nil, List.append_nil, line_nil, line_n, decide_true, decide_false, e21, e12, e57, e75, q1, q2, callG_1 ho', c_nin, in57t, n5, at_0, at_1, at_2, callG_1 h8, callG_1 h9, sl_tup, cut5, callG_1 h4, Bool.or_false, Bool.or_true, Bool.true_or, Bool.false_or]
          · by_cases q4 : a = 2
            · subst q4
              simp only [runs_nil, runs_cons, run_asg, run_asgT, run_par, run_aug, run_app, run_seti, run_expr, run_iff, run_whl, run_fr, run_ret, run_retN, run_pass, run_brk, run_cont, ev_var, ev_cst, ev_tup, ev_lst, ev_bin, ev_neg, ev_cmp, ev_cmp2, ev_and, ev_or, ev_not, ev_ife, ev_ix, ev_sl, ev_call, ev_bi, ev_isi, ev_mt1, ev_lc, ev_ali, ev_mkT, ev_callT, run_tape, run_mpar, evM_nil, evM_cons, thaw_d, thaw_fr, thaw_pl, asgs, run_gset, run_gpop, glL, putG, setG, fin_next, fin_ret, fin_exc, fin_any, seq_any, evs_nil, evs_cons, evL_nil, evL_cons, evG_nil, evG_cons, evT_yes, evT_not, evT_and, evT_or, evT_ife, evT_val, evO_no, evO_so, evI_ex, evI_rng1, evI_rng2, evI_zip, evI_enm, evI_rng3, zip_tup, zip_lst, tru_bl, tru_int, R.bind_ok, FR.of_ok, seq_next, seq_ret, seq_brk, seq_cont, seq_exc, seq_ite, of_some, of_none, get_d, get_fr, get_pl, cont_dat, cont_own, cont_bor, cont_lck, frz_d, frz_fr, asg_d, asg_fr, argF, argT, gets_nil, gets_cons, ags_nil, ags_cons, ag_d, lents_d, lents_pl, lents_nil, backs_nil, backs_d, backs_pl, backW, lock_d, lock_fr, lock_pl, setW, tgD, tgsD, normW, finA, List.getElem?_cons_zero, List.getElem?_cons_succ, List.set_cons_zero, List.set_cons_succ, Option.bind_some, Option.bind_none, Option.map_some, Option.map_none, List.map_cons, List.map_nil, List.replicate, List.cons_append, List.nil_append, Bool.and_true, Bool.and_self, if_true, if_false, Bool.false_eq_true, reduceCtorEq, List.length_cons, List.length_nil, Nat.reduceAdd, Nat.reduceSub, List.all_cons, List.all_nil, List.getD_cons_zero, List.getD_cons_succ, plainVs, backV, wipeW, biD, len_lst, len_tup, len_scr, tupleD, listD, allD, intD, absD, isiD, isiO_non, isiO_bl, isiO_int, isiO_str, isiO_tup, isiO_lst, isiO_scr, len_gl, x_gl, isN, b_add, b_sub, b_mulr, b_mull, b_fdiv, b_mod, b_pow, b_shl, b_shr, b_band, b_bor, b_bxor, b_addt, b_addl, b_repl, c_eqi, c_eqs, c_eqb, c_nei, c_nes, c_lt, c_le, c_gt, c_ge, c_is, c_isn, c_isb, c_isnb, isB, c_in, x_lst, x_tup, x_scr, it_lst, it_tup, it_scr, Bool.not_true, Bool.not_false, id_eq, blsOf, intsOf, strsOf, and_self, true_and, and_true, Nat.reduceMul, Nat.reducePow, Nat.reduceLeDiff, Int.reduceLT, Int.reduceLE, Int.reduceNeg, Int.reducePow, Int.reduceToNat, Int.reduceMul, Int.reduceAdd, Int.reduceSub, List.flatten_cons, List.flatten_nil, List.append_nil, line_nil, line_n, decide_true, decide_false, e21, e12, e57, e75, q1, q2, callG_1 ho', c_nin, in57t, n5, at_0, at_1, at_2, callG_1 h8, callG_1 h9, sl_tup, cut5, cut5b, callG_1 h4, callG_1 h7, Bool.or_false, Bool.or_true, Bool.true_or, Bool.false_or]
            · simp only [runs_nil, runs_cons, run_asg, run_asgT, run_par, run_aug, run_app, run_seti, run_expr, run_iff, run_whl, run_fr, run_ret, run_retN, run_pass, run_brk, run_cont, ev_var, ev_cst, ev_tup, ev_lst, ev_bin, ev_neg, ev_cmp, ev_cmp2, ev_and, ev_or, ev_not, ev_ife, ev_ix, ev_sl, ev_call, ev_bi, ev_isi, ev_mt1, ev_lc, ev_ali, ev_mkT, ev_callT, run_tape, run_mpar, evM_nil, evM_cons, thaw_d, thaw_fr, thaw_pl, asgs, run_gset, run_gpop, glL, putG, setG, fin_next, fin_ret, fin_exc, fin_any, seq_any, evs_nil, evs_cons, evL_nil, evL_cons, evG_nil, evG_cons, evT_yes, evT_not, evT_and, evT_or, evT_ife, evT_val, evO_no, evO_so, evI_ex, evI_rng1, evI_rng2, evI_zip, evI_enm, evI_rng3, zip_tup, zip_lst, tru_bl, tru_int, R.bind_ok, FR.of_ok, seq_next, seq_ret, seq_brk, seq_cont, seq_exc, seq_ite, of_some, of_none, get_d, get_fr, get_pl, cont_dat, cont_own, cont_bor, cont_lck, frz_d, frz_fr, asg_d, asg_fr, argF, argT, gets_nil, gets_cons, ags_nil, ags_cons, ag_d, lents_d, lents_pl, lents_nil, backs_nil, backs_d, backs_pl, backW, lock_d, lock_fr, lock_pl, setW, tgD, tgsD, normW, finA, List.getElem?_cons_zero, List.getElem?_cons_succ, List.set_cons_zero, List.set_cons_succ, Option.bind_some, Option.bind_none, Option.map_some, Option.map_none, List.map_cons, List.map_nil, List.replicate, List.cons_append, List.nil_append, Bool.and_true, Bool.and_self, if_true, if_false, Bool.false_eq_true, reduceCtorEq, List.length_cons, List.length_nil, Nat.reduceAdd, Nat.reduceSub, List.all_cons, List.all_nil, List.getD_cons_zero, List.getD_cons_succ, plainVs, backV, wipeW, biD, len_lst, len_tup, len_scr, tupleD, listD, allD, intD, absD, isiD, isiO_non, isiO_bl, isiO_int, isiO_str, isiO_tup, isiO_lst, isiO_scr, len_gl, x_gl, isN, b_add, b_sub, b_mulr, b_mull, b_fdiv, b_mod, b_pow, b_shl, b_shr, b_band, b_bor, b_bxor, b_addt, b_addl, b_repl, c_eqi, c_eqs, c_eqb, c_nei, c_nes, c_lt, c_le, c_gt, c_ge, c_is, c_isn, c_isb, c_isnb, isB, c_in, x_lst, x_tup, x_scr, it_lst, it_tup, it_scr, Bool.not_true, Bool.not_false, id_eq, blsOf, intsOf, strsOf, and_self, true_and, and_true, Nat.reduceMul, Nat.reducePow, Nat.reduceLeDiff, Int.reduceLT, Int.reduceLE, Int.reduceNeg, Int.reducePow, Int.reduceToNat, Int.reduceMul, Int.reduceAdd, Int.reduceSub, List.flatten_cons, List.flatten_nil, List.append_nil, line_nil, line_n, decide_true, decide_false, e21, e12, e57, e75, q1, q2, callG_1 ho', c_nin, in57t, n5, at_0, at_1, at_2, callG_1 h8, callG_1 h9, sl_tup, cut5, cut5b, callG_1 h4, callG_1 h7, q3, q4, Bool.or_false, Bool.or_true, Bool.true_or, Bool.false_or]
    · simp only [List.map_cons, List.map_nil] at ho' ⊢
      have h8 := is_hardware (k + 2) (sol_int b)
      have h9 := is_boot (k + 2) (sol_int c)
      have h4 := number_of2 (k + 3) d e
      have h7 := of_tup (k + 1) (ds := [.int f, .int g]) (by decide : 2 ≤ 1000) (fa_cons (sol_int _) (fa_cons (sol_int _) fa_nil))
      unfold wordD
      cases q1 : hwB 200 (.int b) with
      | false => rw [q1] at h8; simp only [runs_nil, runs_cons, run_asg, run_asgT, run_par, run_aug, run_app, run_seti, run_expr, run_iff, run_whl, run_fr, run_ret, run_retN, run_pass, run_brk, run_cont, ev_var, ev_cst, ev_tup, ev_lst, ev_bin, ev_neg, ev_cmp, ev_cmp2, ev_and, ev_or, ev_not, ev_ife, ev_ix, ev_sl, ev_call, ev_bi, ev_isi, ev_mt1, ev_lc, ev_ali, ev_mkT, ev_callT, run_tape, run_mpar, evM_nil, evM_cons, thaw_d, thaw_fr, thaw_pl, asgs, run_gset, run_gpop, glL, putG, setG, fin_next, fin_ret, fin_exc, fin_any, seq_any, evs_nil, evs_cons, evL_nil, evL_cons, evG_nil, evG_cons, evT_yes, evT_not, evT_and, evT_or, evT_ife, evT_val, evO_no, evO_so, evI_ex, evI_rng1, evI_rng2, evI_zip, evI_enm, evI_rng3, zip_tup, zip_lst, tru_bl, tru_int, R.bind_ok, FR.of_ok, seq_next, seq_ret, seq_brk, seq_cont, seq_exc, seq_ite, of_some, of_none, get_d, get_fr, get_pl, cont_dat, cont_own, cont_bor, cont_lck, frz_d, frz_fr, asg_d, asg_fr, argF, argT, gets_nil, gets_cons, ags_nil, ags_cons, ag_d, lents_d, lents_pl, lents_nil, backs_nil, backs_d, backs_pl, backW, lock_d, lock_fr, lock_pl, setW, tgD, tgsD, normW, finA, List.getElem?_cons_zero, List.getElem?_cons_succ, List.set_cons_zero, List.set_cons_succ, Option.bind_some, Option.bind_none, Option.map_some, Option.map_none, List.map_cons, List.map_nil, List.replicate, List.cons_append, List.nil_append, Bool.and_true, Bool.and_self, if_true, if_false, Bool.false_eq_true, reduceCtorEq, List.length_cons, List.length_nil, Nat.reduceAdd, Nat.reduceSub, List.all_cons, List.all_nil, List.getD_cons_zero, List.getD_cons_succ, plainVs, backV, wipeW, biD, len_lst, len_tup, len_scr, tupleD, listD, allD, intD, absD, isiD, isiO_non, isiO_bl, isiO_int, isiO_str, isiO_tup, isiO_lst, isiO_scr, len_gl, x_gl, isN, b_add, b_sub, b_mulr, b_mull, b_fdiv, b_mod, b_pow, b_shl, b_shr, b_band, b_bor, b_bxor, b_addt, b_addl, b_repl, c_eqi, c_eqs, c_eqb, c_nei, c_nes, c_lt, c_le, c_gt, c_ge, c_is, c_isn, c_isb, c_isnb, isB, c_in, x_lst, x_tup, x_scr, it_lst, it_tup, it_scr, Bool.not_true, Bool.not_false, id_eq, blsOf, intsOf, strsOf, and_self, true_and, and_true, Nat.reduceMul, Nat.reducePow, Nat.reduceLeDiff, Int.reduceLT, Int.reduceLE, Int.reduceNeg, Int.reducePow, Int.reduceToNat, Int.reduceMul, Int.reduceAdd, Int.reduceSub, List.flatten_cons, List.flatten_nil, List.append_nil, line_nil, line_n, decide_true, decide_false, e21, e12, e57, e75, q1, callG_1 ho', c_nin, in57t, n7, at_1, callG_1 h8, Bool.or_false, Bool.or_true, Bool.true_or, Bool.false_or]
      | true =>
        rw [q1] at h8
        cases q2 : hwB 201 (.int c) with
        | false => rw [q2] at h9; simp only [runs_nil, runs_cons, run_asg, run_asgT, run_par, run_aug, run_app, run_seti, run_expr, run_iff, run_whl, run_fr, run_ret, run_retN, run_pass, run_brk, run_cont, ev_var, ev_cst, ev_tup, ev_lst, ev_bin, ev_neg, ev_cmp, ev_cmp2, ev_and, ev_or, ev_not, ev_ife, ev_ix, ev_sl, ev_call, ev_bi, ev_isi, ev_mt1, ev_lc, ev_ali, ev_mkT, ev_callT, run_tape, run_mpar, evM_nil, evM_cons, thaw_d, thaw_fr, thaw_pl, asgs, run_gset, run_gpop, glL, putG, setG, fin_next, fin_ret, fin_exc, fin_any, seq_any, evs_nil, evs_cons, evL_nil, evL_cons, evG_nil, evG_cons, evT_yes, evT_not, evT_and, evT_or, evT_ife, evT_val, evO_no, evO_so, evI_ex, evI_rng1, evI_rng2, evI_zip, evI_enm, evI_rng3, zip_tup, zip_lst, tru_bl, tru_int, R.bind_ok, FR.of_ok, seq_next, seq_ret, seq_brk, seq_cont, seq_exc, seq_ite, of_some, of_none, get_d, get_fr, get_pl, cont_dat, cont_own, cont_bor, cont_lck, frz_d, frz_fr, asg_d, asg_fr, argF, argT, gets_nil, gets_cons, ags_nil, ags_cons, ag_d, lents_d, lents_pl, lents_nil, backs_nil, backs_d, backs_pl, backW, lock_d, lock_fr, lock_pl, setW, tgD, tgsD, normW, finA, List.getElem?_cons_zero, List.getElem?_cons_succ, List.set_cons_zero, List.set_cons_succ, Option.bind_some, Option.bind_none, Option.map_some, Option.map_none, List.map_cons, List.map_nil, List.replicate, List.cons_append, List.nil_append, Bool.and_true, Bool.and_self, if_true, if_false, Bool.false_eq_true, reduceCtorEq, List.length_cons, List.length_nil, Nat.reduceAdd, Nat.reduceSub, List.all_cons, List.all_nil, List.getD_cons_zero, List.getD_cons_succ, plainVs, backV, wipeW, biD, len_lst, len_tup, len_scr, tupleD, listD, allD, intD, absD, isiD, isiO_non, isiO_bl, isiO_int, isiO_str, isiO_tup, isiO_lst, isiO_scr, len_gl, x_gl, isN, b_add, b_sub, b_mulr, b_mull, b_fdiv, b_mod, b_pow, b_shl, b_shr, b_band, b_bor, b_bxor, b_addt, b_addl, b_repl, c_eqi, c_eqs, c_eqb, c_nei, c_nes, c_lt, c_le, c_gt, c_ge, c_is, c_isn, c_isb, c_isnb, isB, c_in, x_lst, x_tup, x_scr, it_lst, it_tup, it_scr, Bool.not_true, Bool.not_false, id_eq, blsOf, intsOf, strsOf, and_self, true_and, and_true, Nat.reduceMul, Nat.reducePow, Nat.reduceLeDiff, Int.reduceLT, Int.reduceLE, Int.reduceNeg, Int.reducePow, Int.reduceToNat, Int.reduceMul, Int.reduceAdd, Int.reduceSub, List.flatten_cons, List.flatten_nil, List.append_nil, line_nil, line_n, decide_true, decide_false, e21, e12, e57, e75, q1, q2, callG_1 ho', c_nin, in57t, n7, at_1, at_2, callG_1 h8, callG_1 h9, Bool.or_false, Bool.or_true, Bool.true_or, Bool.false_or]
        | true =>
          rw [q2] at h9
          cases q5 : addrB (.tup [.int f, .int g]) with
          | false =>
            have ea : aoo [.int f, .int g] = .non := by unfold aoo; rw [q5]; rfl
            rw [ea] at h7
            by_cases q3 : a = 1
            · subst q3
              simp only [runs_nil, runs_cons, run_asg, run_asgT, run_par, run_aug, run_app, run_seti, run_expr, run_iff, run_whl, run_fr, run_ret, run_retN, run_pass, run_brk, run_cont, ev_var, ev_cst, ev_tup, ev_lst, ev_bin, ev_neg, ev_cmp, ev_cmp2, ev_and, ev_or, ev_not, ev_ife, ev_ix, ev_sl, ev_call, ev_bi, ev_isi, ev_mt1, ev_lc, ev_ali, ev_mkT, ev_callT, run_tape, run_mpar, evM_nil, evM_cons, thaw_d, thaw_fr, thaw_pl, asgs, run_gset, run_gpop, glL, putG, setG, fin_next, fin_ret, fin_exc, fin_any, seq_any, evs_nil, evs_cons, evL_nil, evL_cons, evG_nil, evG_cons, evT_yes, evT_not, evT_and, evT_or, evT_ife, evT_val, evO_no, evO_so, evI_ex, evI_rng1, evI_rng2, evI_zip, evI_enm, evI_rng3, zip_tup, zip_lst, tru_bl, tru_int, R.bind_ok, FR.of_ok, seq_next, seq_ret, seq_brk, seq_cont, seq_exc, seq_ite, of_some, of_none, get_d, get_fr, get_pl, cont_dat, cont_own, cont_bor, cont_lck, frz_d, frz_fr, asg_d, asg_fr, argF, argT, gets_nil, gets_cons, ags_nil, ags_cons, ag_d, lents_d, lents_pl, lents_nil, backs_nil, backs_d, backs_pl, backW, lock_d, lock_fr, lock_pl, setW, tgD, tgsD, normW, finA, List.getElem?_cons_zero, List.getElem?_cons_succ, List.set_cons_zero, List.set_cons_succ, Option.bind_some, Option.bind_none, Option.map_some, Option.map_none, List.map_cons, List.map_nil, List.replicate, List.cons_append, List.nil_append, Bool.and_true, Bool.and_self, if_true, if_false, Bool.false_eq_true, reduceCtorEq, List.length_cons, List.length_nil, Nat.reduceAdd, Nat.reduceSub, List.all_cons, List.all_nil, List.getD_cons_zero, List.getD_cons_succ, plainVs, backV, wipeW, biD, len_lst, len_tup, len_scr, tupleD, listD, allD, intD, absD, isiD, isiO_non, isiO_bl, isiO_int, isiO_str, isiO_tup, isiO_lst, isiO_scr, len_gl, x_gl, isN, b_add, b_sub, b_mulr, b_mull, b_fdiv, b_mod, b_pow, b_shl, b_shr, b_band, b_bor, b_bxor, b_addt, b_addl, b_repl, c_eqi, c_eqs, c_eqb, c_nei, c_nes, c_lt, c_le, c_gt, c_ge, c_is, c_isn, c_isb, c_isnb, isB, c_in, x_lst, x_tup, x_scr, it_lst, it_tup, it_scr, Bool.not_true, Bool.not_false, id_eq, blsOf, intsOf, strsOf, and_self, true_and, and_true, Nat.reduceMul, Nat.reducePow, Nat.reduceLeDiff, Int.reduceLT, Int.reduceLE, Int.reduceNeg, Int.reducePow, Int.reduceToNat, Int.reduceMul, Int.reduceAdd, Int.reduceSub, List.flatten_cons, List.flatten_nil, List.append_nil, line_nil, line_n, decide_true, decide_false, e21, e12, e57, e75, q1, q2, q5, callG_1 ho', c_nin, in57t, n7, at_0, at_1, at_2, callG_1 h8, callG_1 h9, sl_tup, cut7, cut7b, callG_1 h4, callG_1 h7, Bool.or_false, Bool.or_true, Bool.true_or, Bool.false_or]
            · by_cases q4 : a = 2
              · subst q4
                simp only [runs_nil, runs_cons, run_asg, run_asgT, run_par, run_aug, run_app, run_seti, run_expr, run_iff, run_whl, run_fr, run_ret, run_retN, run_pass, run_brk, run_cont, ev_var, ev_cst, ev_tup, ev_lst, ev_bin, ev_neg, ev_cmp, ev_cmp2, ev_and, ev_or, ev_not, ev_ife, ev_ix, ev_sl, ev_call, ev_bi, ev_isi, ev_mt1, ev_lc, ev_ali, ev_mkT, ev_callT, run_tape, run_mpar, evM_nil, evM_cons, thaw_d, thaw_fr, thaw_pl, asgs, run_gset, run_gpop, glL, putG, setG, fin_next, fin_ret, fin_exc, fin_any, seq_any, evs_nil, evs_cons, evL_nil, evL_cons, evG_nil, evG_cons, evT_yes, evT_not, evT_and, evT_or, evT_ife, evT_val, evO_no, evO_so, evI_ex, evI_rng1, evI_rng2, evI_zip, evI_enm, evI_rng3, zip_tup, zip_lst, tru_bl, tru_int, R.bind_ok, FR.of_ok, seq_next, seq_ret, seq_brk, seq_cont, seq_exc, seq_ite, of_some, of_none, get_d, get_fr, get_pl, cont_dat, cont_own, cont_bor, cont_lck, frz_d, frz_fr, asg_d, asg_fr, argF, argT, gets_nil, gets_cons, ags_nil, ags_cons, ag_d, lents_d, lents_pl, lents_nil, backs_nil, backs_d, backs_pl, backW, lock_d, lock_fr, lock_pl, setW, tgD, tgsD, normW, finA, List.getElem?_cons_zero, List.getElem?_cons_succ, List.set_cons_zero, List.set_cons_succ, Option.bind_some, Option.bind_none, Option.map_some, Option.map_none, List.map_cons, List.map_nil, List.replicate, List.cons_append, List.nil_append, Bool.and_true, Bool.and_self, if_true, if_false, Bool.false_eq_true, reduceCtorEq, List.length_cons, List.length_nil, Nat.reduceAdd, Nat.reduceSub, List.all_cons, List.all_nil, List.getD_cons_zero, List.getD_cons_succ, plainVs, backV, wipeW, biD, len_lst, len_tup, len_scr, tupleD, listD, allD, intD, absD, isiD, isiO_non, isiO_bl, isiO_int, isiO_str, isiO_tup, isiO_lst, isiO_scr, len_gl, x_gl, isN, b_add, b_sub, b_mulr, b_mull, b_fdiv, b_mod, b_pow, b_shl, b_shr, b_band, b_bor, b_bxor, b_addt, b_addl, b_repl, c_eqi, c_eqs, c_eqb, c_nei, c_nes, c_lt, c_le, c_gt, c_ge, c_is, c_isn, c_isb, c_isnb, isB, c_in, x_lst, x_tup, x_scr, it_lst, it_tup, it_scr, Bool.not_true, Bool.not_false, id_eq, blsOf, intsOf, strsOf, and_self, true_and, and_true, Nat.reduceMul, Nat.reducePow, Nat.reduceLeDiff, Int.reduceLT, Int.reduceLE, Int.reduceNeg, Int.reducePow, Int.reduceToNat, Int.reduceMul, Int.reduceAdd, Int.reduceSub, List.flatten_cons, List.flatten_nil, List.append_nil, line_nil, line_n, decide_true, decide_false, e21, e12, e57, e75, q1, q2, q5, callG_1 ho', c_nin, in57t, n7, at_0, at_1, at_2, callG_1 h8, callG_1 h9, sl_tup, cut7, cut7b, callG_1 h4, callG_1 h7, Bool.or_false, Bool.or_true, Bool.true_or, Bool.false_or]
              · simp only [runs_nil, runs_cons, run_asg, run_asgT, run_par, run_aug, run_app, run_seti, run_expr, run_iff, run_whl, run_fr, run_ret, run_retN, run_pass, run_brk, run_cont, ev_var, ev_cst, ev_tup, ev_lst, ev_bin, ev_neg, ev_cmp, ev_cmp2, ev_and, ev_or, ev_not, ev_ife, ev_ix, ev_sl, ev_call, ev_bi, ev_isi, ev_mt1, ev_lc, ev_ali, ev_mkT, ev_callT, run_tape, run_mpar, evM_nil, evM_cons, thaw_d, thaw_fr, thaw_pl, asgs, run_gset, run_gpop, glL, putG, setG, fin_next, fin_ret, fin_exc, fin_any, seq_any, evs_nil, evs_cons, evL_nil, evL_cons, evG_nil, evG_cons, evT_yes, evT_not, evT_and, evT_or, evT_ife, evT_val, evO_no, evO_so, evI_ex, evI_rng1, evI_rng2, evI_zip, evI_enm, evI_rng3, zip_tup, zip_lst, tru_bl, tru_int, R.bind_ok, FR.of_ok, seq_next, seq_ret, seq_brk, seq_cont, seq_exc, seq_ite, of_some, of_none, get_d, get_fr, get_pl, cont_dat, cont_own, cont_bor, cont_lck, frz_d, frz_fr, asg_d, asg_fr, argF, argT, gets_nil, gets_cons, ags_nil, ags_cons, ag_d, lents_d, lents_pl, lents_nil, backs_nil, backs_d, backs_pl, backW, lock_d, lock_fr, lock_pl, setW, tgD, tgsD, normW, finA, List.getElem?_cons_zero, List.getElem?_cons_succ, List.set_cons_zero, List.set_cons_succ, Option.bind_some, Option.bind_none, Option.map_some, Option.map_none, List.map_cons, List.map_nil, List.replicate, List.cons_append, List.nil_append, Bool.and_true, Bool.and_self, if_true, if_false, Bool.false_eq_true, reduceCtorEq, List.length_cons, List.length_nil, Nat.reduceAdd, Nat.reduceSub, List.all_cons, List.all_nil, List.getD_cons_zero, List.getD_cons_succ, plainVs, backV, wipeW, biD, len_lst, len_tup, len_scr, tupleD, listD, allD, intD, absD, isiD, isiO_non, isiO_bl, isiO_int, isiO_str, isiO_tup, isiO_lst, isiO_scr, len_gl, x_gl, isN, b_add, b_sub, b_mulr, b_mull, b_fdiv, b_mod, b_pow, b_shl, b_shr, b_band, b_bor, b_bxor, b_addt, b_addl, b_repl, c_eqi, c_eqs, c_eqb, c_nei, c_nes, c_lt, c_le, c_gt, c_ge, c_is, c_isn, c_isb, c_isnb, isB, c_in, x_lst, x_tup, x_scr, it_lst, it_tup, it_scr, Bool.not_true, Bool.not_false, id_eq, blsOf, intsOf, strsOf, and_self, true_and, and_true, Nat.reduceMul, Nat.reducePow, Nat.reduceLeDiff, Int.reduceLT, Int.reduceLE, Int.reduceNeg, Int.reducePow, Int.reduceToNat, Int.reduceMul, Int.reduceAdd, Int.reduceSub, List.flatten_cons, List.flatten_nil, List.append_nil, line_nil, line_n, decide_true, decide_false, e21, e12, e57, e75, q1, q2, q5, callG_1 ho', c_nin, in57t, n7, at_0, at_1, at_2, callG_1 h8, callG_1 h9, sl_tup, cut7, cut7b, callG_1 h4, callG_1 h7, q3, q4, Bool.or_false, Bool.or_true, Bool.true_or, Bool.false_or]
          | true =>
            have ea : aoo [.int f, .int g] = .tup [.int f, .int g] := by unfold aoo; rw [q5]; rfl
            rw [ea] at h7
            by_cases q3 : a = 1
            · subst q3
              simp only [runs_nil, runs_cons, run_asg, run_asgT, run_par, run_aug, run_app, run_seti, run_expr, run_iff, run_whl, run_fr, run_ret, run_retN, run_pass, run_brk, run_cont, ev_var, ev_cst, ev_tup, ev_lst, ev_bin, ev_neg, ev_cmp, ev_cmp2, ev_and, ev_or, ev_not, ev_ife, ev_ix, ev_sl, ev_call, ev_bi, ev_isi, ev_mt1, ev_lc, ev_ali, ev_mkT, ev_callT, run_tape, run_mpar, evM_nil, evM_cons, thaw_d, thaw_fr, thaw_pl, asgs, run_gset, run_gpop, glL, putG, setG, fin_next, fin_ret, fin_exc, fin_any, seq_any, evs_nil, evs_cons, evL_nil, evL_cons, evG_nil, evG_cons, evT_yes, evT_not, evT_and, evT_or, evT_ife, evT_val, evO_no, evO_so, evI_ex, evI_rng1, evI_rng2, evI_zip, evI_enm, evI_rng3, zip_tup, zip_lst, tru_bl, tru_int, R.bind_ok, FR.of_ok, seq_next, seq_ret, seq_brk, seq_cont, seq_exc, seq_ite, of_some, of_none, get_d, get_fr, get_pl, cont_dat, cont_own, cont_bor, cont_lck, frz_d, frz_fr, asg_d, asg_fr, argF, argT, gets_nil, gets_cons, ags_nil, ags_cons, ag_d, lents_d, lents_pl, lents_nil, backs_nil, backs_d, backs_pl, backW, lock_d, lock_fr, lock_pl, setW, tgD, tgsD, normW, finA, List.getElem?_cons_zero, List.getElem?_cons_succ, List.set_cons_zero, List.set_cons_succ, Option.bind_some, Option.bind_none, Option.map_some, Option.map_none, List.map_cons, List.map_nil, List.replicate, List.cons_append, List.nil_append, Bool.and_true, Bool.and_self, if_true, if_false, Bool.false_eq_true, reduceCtorEq, List.length_cons, List.length_nil, Nat.reduceAdd, Nat.reduceSub, List.all_cons, List.all_nil, List.getD_cons_zero, List.getD_cons_succ, plainVs, backV, wipeW, biD, len_lst, len_tup, len_scr, tupleD, listD, allD, intD, absD, isiD, isiO_non, isiO_bl, isiO_int, isiO_str, isiO_tup, isiO_lst, isiO_scr, len_gl, x_gl, isN, b_add, b_sub, b_mulr, b_mull, b_fdiv, b_mod, b_pow, b_shl, b_shr, b_band, b_bor, b_bxor, b_addt, b_addl, b_repl, c_eqi, c_eqs, c_eqb, c_nei, c_nes, c_lt, c_le, c_gt, c_ge, c_is, c_isn, c_isb, c_isnb, isB, c_in, x_lst, x_tup, x_scr, it_lst, it_tup, it_scr, Bool.not_true, Bool.not_false, id_eq, blsOf, intsOf, strsOf, and_self, true_and, and_true, Nat.reduceMul, Nat.reducePow, Nat.reduceLeDiff, Int.reduceLT, Int.reduceLE, Int.reduceNeg, Int.reducePow, Int.reduceToNat, Int.reduceMul, Int.reduceAdd, Int.reduceSub, List.flatten_cons, List.flatten_nil, List.append_nil, line_nil, line_n, decide_true, decide_false, e21, e12, e57, e75, q1, q2, q5, callG_1 ho', c_nin, in57t, n7, at_0, at_1, at_2, callG_1 h8, callG_1 h9, sl_tup, cut7, cut7b, callG_1 h4, callG_1 h7, Bool.or_false, Bool.or_true, Bool.true_or, Bool.false_or]
            · by_cases q4 : a = 2
              · subst q4
                simp only [runs_nil, runs_cons, run_asg, run_asgT, run_par, run_aug, run_app, run_seti, run_expr, run_iff, run_whl, run_fr, run_ret, run_retN, run_pass, run_brk, run_cont, ev_var, ev_cst, ev_tup, ev_lst, ev_bin, ev_neg, ev_cmp, ev_cmp2, ev_and, ev_or, ev_not, ev_ife, ev_ix, ev_sl, ev_call, ev_bi, ev_isi, ev_mt1, ev_lc, ev_ali, ev_mkT, ev_callT, run_tape, run_mpar, evM_nil, evM_cons, thaw_d, thaw_fr, thaw_pl, asgs, run_gset, run_gpop, glL, putG, setG, fin_next, fin_ret, fin_exc, fin_any, seq_any, evs_nil, evs_cons, evL_nil, evL_cons, evG_nil, evG_cons, evT_yes, evT_not, evT_and, evT_or, evT_ife, evT_val, evO_no, evO_so, evI_ex, evI_rng1, evI_rng2, evI_zip, evI_enm, evI_rng3, zip_tup, zip_lst, tru_bl, tru_int, R.bind_ok, FR.of_ok, seq_next, seq_ret, seq_brk, seq_cont, seq_exc, seq_ite, of_some, of_none, get_d, get_fr, get_pl, cont_dat, cont_own, cont_bor, cont_lck, frz_d, frz_fr, asg_d, asg_fr, argF, argT, gets_nil, gets_cons, ags_nil, ags_cons, ag_d, lents_d, lents_pl, lents_nil, backs_nil, backs_d, backs_pl, backW, lock_d, lock_fr, lock_pl, setW, tgD, tgsD, normW, finA, List.getElem?_cons_zero, List.getElem?_cons_succ, List.set_cons_zero, List.set_cons_succ, Option.bind_some, Option.bind_none, Option.map_some, Option.map_none, List.map_cons, List.map_nil, List.replicate, List.cons_append, List.nil_append, Bool.and_true, Bool.and_self, if_true, if_false, Bool.false_eq_true, reduceCtorEq, List.length_cons, List.length_nil, Nat.reduceAdd, Nat.reduceSub, List.all_cons, List.all_nil, List.getD_cons_zero, List.getD_cons_succ, plainVs, backV, wipeW, biD, len_lst, len_tup, len_scr, tupleD, listD, allD, intD, absD, isiD, isiO_non, isiO_bl, isiO_int, isiO_str, isiO_tup, isiO_lst, isiO_scr, len_gl, x_gl, isN, b_add, b_sub, b_mulr, b_mull, b_fdiv, b_mod, b_pow, b_shl, b_shr, b_band, b_bor, b_bxor, b_addt, b_addl, b_repl, c_eqi, c_eqs, c_eqb, c_nei, c_nes, c_lt, c_le, c_gt, c_ge, c_is, c_isn, c_isb, c_isnb, isB, c_in, x_lst, x_tup, x_scr, it_lst, it_tup, it_scr, Bool.not_true, Bool.not_false, id_eq, blsOf, intsOf, strsOf, and_self, true_and, and_true, Nat.reduceMul, Nat.reducePow, Nat.reduceLeDiff, Int.reduceLT, Int.reduceLE, Int.reduceNeg, Int.reducePow, Int.reduceToNat, Int.reduceMul, Int.reduceAdd, Int.reduceSub, List.flatten_cons, List.flatten_nil, List.append_nil, line_nil, line_n, decide_true, decide_false, e21, e12, e57, e75, q1, q2, q5, callG_1 ho', c_nin, in57t, n7, at_0, at_1, at_2, callG_1 h8, callG_1 h9, sl_tup, cut7, cut7b, callG_1 h4, callG_1 h7, Bool.or_false, Bool.or_true, Bool.true_or, Bool.false_or]
              · simp only [runs_nil, runs_cons, run_asg, run_asgT, run_par, run_aug, run_app, run_seti, run_expr, run_iff, run_whl, run_fr, run_ret, run_retN, run_pass, run_brk, run_cont, ev_var, ev_cst, ev_tup, ev_lst, ev_bin, ev_neg, ev_cmp, ev_cmp2, ev_and, ev_or, ev_not, ev_ife, ev_ix, ev_sl, ev_call, ev_bi, ev_isi, ev_mt1, ev_lc, ev_ali, ev_mkT, ev_callT, run_tape, run_mpar, evM_nil, evM_cons, thaw_d, thaw_fr, thaw_pl, asgs, run_gset, run_gpop, glL, putG, setG, fin_next, fin_ret, fin_exc, fin_any, seq_any, evs_nil, evs_cons, evL_nil, evL_cons, evG_nil, evG_cons, evT_yes, evT_not, evT_and, evT_or, evT_ife, evT_val, evO_no, evO_so, evI_ex, evI_rng1, evI_rng2, evI_zip, evI_enm, evI_rng3, zip_tup, zip_lst, tru_bl, tru_int, R.bind_ok, FR.of_ok, seq_next, seq_ret, seq_brk, seq_cont, seq_exc, seq_ite, of_some, of_none, get_d, get_fr, get_pl, cont_dat, cont_own, cont_bor, cont_lck, frz_d, frz_fr, asg_d, asg_fr, argF, argT, gets_nil, gets_cons, ags_nil, ags_cons, ag_d, lents_d, lents_pl, lents_nil, backs_nil, backs_d, backs_pl, backW, lock_d, lock_fr, lock_pl, setW, tgD, tgsD, normW, finA, List.getElem?_cons_zero, List.getElem?_cons_succ, List.set_cons_zero, List.set_cons_succ, Option.bind_some, Option.bind_none, Option.map_some, Option.map_none, List.map_cons, List.map_nil, List.replicate, List.cons_append, List.nil_append, Bool.and_true, Bool.and_self, if_true, if_false, Bool.false_eq_true, reduceCtorEq, List.length_cons, List.length_nil, Nat.reduceAdd, Nat.reduceSub, List.all_cons, List.all_nil, List.getD_cons_zero, List.getD_cons_succ, plainVs, backV, wipeW, biD, len_lst, len_tup, len_scr, tupleD, listD, allD, intD, absD, isiD, isiO_non, isiO_bl, isiO_int, isiO_str, isiO_tup, isiO_lst, isiO_scr, len_gl, x_gl, isN, b_add, b_sub, b_mulr, b_mull, b_fdiv, b_mod, b_pow, b_shl, b_shr, b_band, b_bor, b_bxor, b_addt, b_addl, b_repl, c_eqi, c_eqs, c_eqb, c_nei, c_nes, c_lt, c_le, c_gt, c_ge, c_is, c_isn, c_isb, c_isnb, isB, c_in, x_lst, x_tup, x_scr, it_lst, it_tup, it_scr, Bool.not_true, Bool.not_false, id_eq, blsOf, intsOf, strsOf, and_self, true_and, and_true, Nat.reduceMul, Nat.reducePow, Nat.reduceLeDiff, Int.reduceLT, Int.reduceLE, Int.reduceNeg, Int.reducePow, Int.reduceToNat, Int.reduceMul, Int.reduceAdd, Int.reduceSub, List.flatten_cons, List.flatten_nil, List.append_nil, line_nil, line_n, decide_true, decide_false, e21, e12, e57, e75, q1, q2, q5, callG_1 ho', c_nin, in57t, n7, at_0, at_1, at_2, callG_1 h8, callG_1 h9, sl_tup, cut7, cut7b, callG_1 h4, callG_1 h7, q3, q4, Bool.or_false, Bool.or_true, Bool.true_or, Bool.false_or]

def W : D → D
  | .tup ds => wordP ds
  | _ => .non
theorem word1_no (k : Nat) {d : D} (h : Sol d) (ht : ∀ ds, d ≠ .tup ds) : callK (prg rows) (k + 5) 12 [.dat d] = .ok (.d .non) [.dat d] := by
  have ho := are_octets (k + 1) h (fun es e => absurd e (ht es))
  have e : areLess d = false := by cases d <;> first | rfl | exact absurd rfl (ht _)
  rw [e] at ho
  rw [callK_run p12]
  unfold runF c_lease_word
  rw [if_pos ⟨rfl, rfl⟩]
  simp only [runs_nil, runs_cons, run_asg, run_asgT, run_par, run_aug, run_app, run_seti, run_expr, run_iff, run_whl, run_fr, run_ret, run_retN, run_pass, run_brk, run_cont, ev_var, ev_cst, ev_tup, ev_lst, ev_bin, ev_neg, ev_cmp, ev_cmp2, ev_and, ev_or, ev_not, ev_ife, ev_ix, ev_sl, ev_call, ev_bi, ev_isi, ev_mt1, ev_lc, ev_ali, ev_mkT, ev_callT, run_tape, run_mpar, evM_nil, evM_cons, thaw_d, thaw_fr, thaw_pl, asgs, run_gset, run_gpop, glL, putG, setG, fin_next, fin_ret, fin_exc, fin_any, seq_any, evs_nil, evs_cons, evL_nil, evL_cons, evG_nil, evG_cons, evT_yes, evT_not, evT_and, evT_or, evT_ife, evT_val, evO_no, evO_so, evI_ex, evI_rng1, evI_rng2, evI_zip, evI_enm, evI_rng3, zip_tup, zip_lst, tru_bl, tru_int, R.bind_ok, FR.of_ok, seq_next, seq_ret, seq_brk, seq_cont, seq_exc, seq_ite, of_some, of_none, get_d, get_fr, get_pl, cont_dat, cont_own, cont_bor, cont_lck, frz_d, frz_fr, asg_d, asg_fr, argF, argT, gets_nil, gets_cons, ags_nil, ags_cons, ag_d, lents_d, lents_pl, lents_nil, backs_nil, backs_d, backs_pl, backW, lock_d, lock_fr, lock_pl, setW, tgD, tgsD, normW, finA, List.getElem?_cons_zero, List.getElem?_cons_succ, List.set_cons_zero, List.set_cons_succ, Option.bind_some, Option.bind_none, Option.map_some, Option.map_none, List.map_cons, List.map_nil, List.replicate, List.cons_append, List.nil_append, Bool.and_true, Bool.and_self, if_true, if_false, Bool.false_eq_true, reduceCtorEq, List.length_cons, List.length_nil, Nat.reduceAdd, Nat.reduceSub, List.all_cons, List.all_nil, List.getD_cons_zero, List.getD_cons_succ, plainVs, backV, wipeW, biD, len_lst, len_tup, len_scr, tupleD, listD, allD, intD, absD, isiD, isiO_non, isiO_bl, isiO_int, isiO_str, isiO_tup, isiO_lst, isiO_scr, len_gl, x_gl, isN, b_add, b_sub, b_mulr, b_mull, b_fdiv, b_mod, b_pow, b_shl, b_shr, b_band, b_bor, b_bxor, b_addt, b_addl, b_repl, c_eqi, c_eqs, c_eqb, c_nei, c_nes, c_lt, c_le, c_gt, c_ge, c_is, c_isn, c_isb, c_isnb, isB, c_in, x_lst, x_tup, x_scr, it_lst, it_tup, it_scr, Bool.not_true, Bool.not_false, id_eq, blsOf, intsOf, strsOf, and_self, true_and, and_true, Nat.reduceMul, Nat.reducePow, Nat.reduceLeDiff, Int.reduceLT, Int.reduceLE, Int.reduceNeg, Int.reducePow, Int.reduceToNat, Int.reduceMul, Int.reduceAdd, Int.reduceSub, List.flatten_cons, List.flatten_nil, List.append_nil, line_nil, line_n, decide_true, decide_false, callG_1 ho]
theorem word2_no (k : Nat) {d : D} (h : Sol d) (ht : ∀ ds, d ≠ .tup ds) : callK (prg rows) (k + 5) 17 [.dat d] = .ok (.d .non) [.dat d] := by
  rw [callK_run p17]
  unfold runF c__law_word
  rw [if_pos ⟨rfl, rfl⟩]
  cases d with
  | tup ds => exact absurd rfl (ht ds)
  | adr b => exact not_adr h
  | gl b ds => exact not_gl h
  | dic x => simp only [runs_nil, runs_cons, run_asg, run_asgT, run_par, run_aug, run_app, run_seti, run_expr, run_iff, run_whl, run_fr, run_ret, run_retN, run_pass, run_brk, run_cont, ev_var, ev_cst, ev_tup, ev_lst, ev_bin, ev_neg, ev_cmp, ev_cmp2, ev_and, ev_or, ev_not, ev_ife, ev_ix, ev_sl, ev_call, ev_bi, ev_isi, ev_mt1, ev_lc, ev_ali, ev_mkT, ev_callT, run_tape, run_mpar, evM_nil, evM_cons, thaw_d, thaw_fr, thaw_pl, asgs, run_gset, run_gpop, glL, putG, setG, fin_next, fin_ret, fin_exc, fin_any, seq_any, evs_nil, evs_cons, evL_nil, evL_cons, evG_nil, evG_cons, evT_yes, evT_not, evT_and, evT_or, evT_ife, evT_val, evO_no, evO_so, evI_ex, evI_rng1, evI_rng2, evI_zip, evI_enm, evI_rng3, zip_tup, zip_lst, tru_bl, tru_int, R.bind_ok, FR.of_ok, seq_next, seq_ret, seq_brk, seq_cont, seq_exc, seq_ite, of_some, of_none, get_d, get_fr, get_pl, cont_dat, cont_own, cont_bor, cont_lck, frz_d, frz_fr, asg_d, asg_fr, argF, argT, gets_nil, gets_cons, ags_nil, ags_cons, ag_d, lents_d, lents_pl, lents_nil, backs_nil, backs_d, backs_pl, backW, lock_d, lock_fr, lock_pl, setW, tgD, tgsD, normW, finA, List.getElem?_cons_zero, List.getElem?_cons_succ, List.set_cons_zero, List.set_cons_succ, Option.bind_some, Option.bind_none, Option.map_some, Option.map_none, List.map_cons, List.map_nil, List.replicate, List.cons_append, List.nil_append, Bool.and_true, Bool.and_self, if_true, if_false, Bool.false_eq_true, reduceCtorEq, List.length_cons, List.length_nil, Nat.reduceAdd, Nat.reduceSub, List.all_cons, List.all_nil, List.getD_cons_zero, List.getD_cons_succ, plainVs, backV, wipeW, biD, len_lst, len_tup, len_scr, tupleD, listD, allD, intD, absD, isiD, isiO_non, isiO_bl, isiO_int, isiO_str, isiO_tup, isiO_lst, isiO_scr, len_gl, x_gl, isN, b_add, b_sub, b_mulr, b_mull, b_fdiv, b_mod, b_pow, b_shl, b_shr, b_band, b_bor, b_bxor, b_addt, b_addl, b_repl, c_eqi, c_eqs, c_eqb, c_nei, c_nes, c_lt, c_le, c_gt, c_ge, c_is, c_isn, c_isb, c_isnb, isB, c_in, x_lst, x_tup, x_scr, it_lst, it_tup, it_scr, Bool.not_true, Bool.not_false, id_eq, blsOf, intsOf, strsOf, and_self, true_and, and_true, Nat.reduceMul, Nat.reducePow, Nat.reduceLeDiff, Int.reduceLT, Int.reduceLE, Int.reduceNeg, Int.reducePow, Int.reduceToNat, Int.reduceMul, Int.reduceAdd, Int.reduceSub, List.flatten_cons, List.flatten_nil, List.append_nil, line_nil, line_n, decide_true, decide_false, h 3]
  | _ => simp only [runs_nil, runs_cons, run_asg, run_asgT, run_par, run_aug, run_app, run_seti, run_expr, run_iff, run_whl, run_fr, run_ret, run_retN, run_pass, run_brk, run_cont, ev_var, ev_cst, ev_tup, ev_lst, ev_bin, ev_neg, ev_cmp, ev_cmp2, ev_and, ev_or, ev_not, ev_ife, ev_ix, ev_sl, ev_call, ev_bi, ev_isi, ev_mt1, ev_lc, ev_ali, ev_mkT, ev_callT, run_tape, run_mpar, evM_nil, evM_cons, thaw_d, thaw_fr, thaw_pl, asgs, run_gset, run_gpop, glL, putG, setG, fin_next, fin_ret, fin_exc, fin_any, seq_any, evs_nil, evs_cons, evL_nil, evL_cons, evG_nil, evG_cons, evT_yes, evT_not, evT_and, evT_or, evT_ife, evT_val, evO_no, evO_so, evI_ex, evI_rng1, evI_rng2, evI_zip, evI_enm, evI_rng3, zip_tup, zip_lst, tru_bl, tru_int, R.bind_ok, FR.of_ok, seq_next, seq_ret, seq_brk, seq_cont, seq_exc, seq_ite, of_some, of_none, get_d, get_fr, get_pl, cont_dat, cont_own, cont_bor, cont_lck, frz_d, frz_fr, asg_d, asg_fr, argF, argT, gets_nil, gets_cons, ags_nil, ags_cons, ag_d, lents_d, lents_pl, lents_nil, backs_nil, backs_d, backs_pl, backW, lock_d, lock_fr, lock_pl, setW, tgD, tgsD, normW, finA, List.getElem?_cons_zero, List.getElem?_cons_succ, List.set_cons_zero, List.set_cons_succ, Option.bind_some, Option.bind_none, Option.map_some, Option.map_none, List.map_cons, List.map_nil, List.replicate, List.cons_append, List.nil_append, Bool.and_true, Bool.and_self, if_true, if_false, Bool.false_eq_true, reduceCtorEq, List.length_cons, List.length_nil, Nat.reduceAdd, Nat.reduceSub, List.all_cons, List.all_nil, List.getD_cons_zero, List.getD_cons_succ, plainVs, backV, wipeW, biD, len_lst, len_tup, len_scr, tupleD, listD, allD, intD, absD, isiD, isiO_non, isiO_bl, isiO_int, isiO_str, isiO_tup, isiO_lst, isiO_scr, len_gl, x_gl, isN, b_add, b_sub, b_mulr, b_mull, b_fdiv, b_mod, b_pow, b_shl, b_shr, b_band, b_bor, b_bxor, b_addt, b_addl, b_repl, c_eqi, c_eqs, c_eqb, c_nei, c_nes, c_lt, c_le, c_gt, c_ge, c_is, c_isn, c_isb, c_isnb, isB, c_in, x_lst, x_tup, x_scr, it_lst, it_tup, it_scr, Bool.not_true, Bool.not_false, id_eq, blsOf, intsOf, strsOf, and_self, true_and, and_true, Nat.reduceMul, Nat.reducePow, Nat.reduceLeDiff, Int.reduceLT, Int.reduceLE, Int.reduceNeg, Int.reducePow, Int.reduceToNat, Int.reduceMul, Int.reduceAdd, Int.reduceSub, List.flatten_cons, List.flatten_nil, List.append_nil, line_nil, line_n, decide_true, decide_false]
theorem less_elt {φ : Phi} {a0 a1 : Pv.W} {x : D} (h : Sol x) : ev φ (.and (.isi (.var 2) 0) (.and (.not (.isi (.var 2) 1)) (.cmp2 .LtE .LtE (.cst (.int 0)) (.var 2) (.cst (.int 255))))) [a0, a1, .dat x] = .ok (.d (.bl (isLess 256 x))) [a0, a1, .dat x] := by
  cases x with
  | int i =>
    have e : decide (i ≤ 255) = decide (i < 256) := decide_eq_decide.mpr (by omega)
    by_cases hi : 0 ≤ i
    · simp only [runs_nil, runs_cons, run_asg, run_asgT, run_par, run_aug, run_app, run_seti, run_expr, run_iff, run_whl, run_fr, run_ret, run_retN, run_pass, run_brk, run_cont, ev_var, ev_cst, ev_tup, ev_lst, ev_bin, ev_neg, ev_cmp, ev_cmp2, ev_and, ev_or, ev_not, ev_ife, ev_ix, ev_sl, ev_call, ev_bi, ev_isi, ev_mt1, ev_lc, ev_ali, ev_mkT, ev_callT, run_tape, run_mpar, evM_nil, evM_cons, thaw_d, thaw_fr, thaw_pl, asgs, run_gset, run_gpop, glL, putG, setG, fin_next, fin_ret, fin_exc, fin_any, seq_any, evs_nil, evs_cons, evL_nil, evL_cons, evG_nil, evG_cons, evT_yes, evT_not, evT_and, evT_or, evT_ife, evT_val, evO_no, evO_so, evI_ex, evI_rng1, evI_rng2, evI_zip, evI_enm, evI_rng3, zip_tup, zip_lst, tru_bl, tru_int, R.bind_ok, FR.of_ok, seq_next, seq_ret, seq_brk, seq_cont, seq_exc, seq_ite, of_some, of_none, get_d, get_fr, get_pl, cont_dat, cont_own, cont_bor, cont_lck, frz_d, frz_fr, asg_d, asg_fr, argF, argT, gets_nil, gets_cons, ags_nil, ags_cons, ag_d, lents_d, lents_pl, lents_nil, backs_nil, backs_d, backs_pl, backW, lock_d, lock_fr, lock_pl, setW, tgD, tgsD, normW, finA, List.getElem?_cons_zero, List.getElem?_cons_succ, List.set_cons_zero, List.set_cons_succ, Option.bind_some, Option.bind_none, Option.map_some, Option.map_none, List.map_cons, List.map_nil, List.replicate, List.cons_append, List.nil_append, Bool.and_true, Bool.and_self, if_true, if_false, Bool.false_eq_true, reduceCtorEq, List.length_cons, List.length_nil, Nat.reduceAdd, Nat.reduceSub, List.all_cons, List.all_nil, List.getD_cons_zero, List.getD_cons_succ, plainVs, backV, wipeW, biD, len_lst, len_tup, len_scr, tupleD, listD, allD, intD, absD, isiD, isiO_non, isiO_bl, isiO_int, isiO_str, isiO_tup, isiO_lst, isiO_scr, len_gl, x_gl, isN, b_add, b_sub, b_mulr, b_mull, b_fdiv, b_mod, b_pow, b_shl, b_shr, b_band, b_bor, b_bxor, b_addt, b_addl, b_repl, c_eqi, c_eqs, c_eqb, c_nei, c_nes, c_lt, c_le, c_gt, c_ge, c_is, c_isn, c_isb, c_isnb, isB, c_in, x_lst, x_tup, x_scr, it_lst, it_tup, it_scr, Bool.not_true, Bool.not_false, id_eq, blsOf, intsOf, strsOf, and_self, true_and, and_true, Nat.reduceMul, Nat.reducePow, Nat.reduceLeDiff, Int.reduceLT, Int.reduceLE, Int.reduceNeg, Int.reducePow, Int.reduceToNat, Int.reduceMul, Int.reduceAdd, Int.reduceSub, List.flatten_cons, List.flatten_nil, List.append_nil, line_nil, line_n, decide_true, decide_false, isLess, hi, decide_true, Bool.true_and, e]
    · simp only [runs_nil, runs_cons, run_asg, run_asgT, run_par, run_aug, run_app, run_seti, run_expr, run_iff, run_whl, run_fr, run_ret, run_retN, run_pass, run_brk, run_cont, ev_var, ev_cst, ev_tup, ev_lst, ev_bin, ev_neg, ev_cmp, ev_cmp2, ev_and, ev_or, ev_not, ev_ife, ev_ix, ev_sl, ev_call, ev_bi, ev_isi, ev_mt1, ev_lc, ev_ali, ev_mkT, ev_callT, run_tape, run_mpar, evM_nil, evM_cons, thaw_d, thaw_fr, thaw_pl, asgs, run_gset, run_gpop, glL, putG, setG, fin_next, fin_ret, fin_exc, fin_any, seq_any, evs_nil, evs_cons, evL_nil, evL_cons, evG_nil, evG_cons, evT_yes, evT_not, evT_and, evT_or, evT_ife, evT_val, evO_no, evO_so, evI_ex, evI_rng1, evI_rng2, evI_zip, evI_enm, evI_rng3, zip_tup, zip_lst, tru_bl, tru_int, R.bind_ok, FR.of_ok, seq_next, seq_ret, seq_brk, seq_cont, seq_exc, seq_ite, of_some, of_none, get_d, get_fr, get_pl, cont_dat, cont_own, cont_bor, cont_lck, frz_d, frz_fr, asg_d, asg_fr, argF, argT, gets_nil, gets_cons, ags_nil, ags_cons, ag_d, lents_d, lents_pl, lents_nil, backs_nil, backs_d, backs_pl, backW, lock_d, lock_fr, lock_pl, setW, tgD, tgsD, normW, finA, List.getElem?_cons_zero, List.getElem?_cons_succ, List.set_cons_zero, List.set_cons_succ, Option.bind_some, Option.bind_none, Option.map_some, Option.map_none, List.map_cons, List.map_nil, List.replicate, List.cons_append, List.nil_append, Bool.and_true, Bool.and_self, if_true, if_false, Bool.false_eq_true, reduceCtorEq, List.length_cons, List.length_nil, Nat.reduceAdd, Nat.reduceSub, List.all_cons, List.all_nil, List.getD_cons_zero, List.getD_cons_succ, plainVs, backV, wipeW, biD, len_lst, len_tup, len_scr, tupleD, listD, allD, intD, absD, isiD, isiO_non, isiO_bl, isiO_int, isiO_str, isiO_tup, isiO_lst, isiO_scr, len_gl, x_gl, isN, b_add, b_sub, b_mulr, b_mull, b_fdiv, b_mod, b_pow, b_shl, b_shr, b_band, b_bor, b_bxor, b_addt, b_addl, b_repl, c_eqi, c_eqs, c_eqb, c_nei, c_nes, c_lt, c_le, c_gt, c_ge, c_is, c_isn, c_isb, c_isnb, isB, c_in, x_lst, x_tup, x_scr, it_lst, it_tup, it_scr, Bool.not_true, Bool.not_false, id_eq, blsOf, intsOf, strsOf, and_self, true_and, and_true, Nat.reduceMul, Nat.reducePow, Nat.reduceLeDiff, Int.reduceLT, Int.reduceLE, Int.reduceNeg, Int.reducePow, Int.reduceToNat, Int.reduceMul, Int.reduceAdd, Int.reduceSub, List.flatten_cons, List.flatten_nil, List.append_nil, line_nil, line_n, decide_true, decide_false, isLess, hi, decide_false, Bool.false_and]
  | adr b => exact not_adr h
  | gl b ds => exact not_gl h
  | dic x => simp only [runs_nil, runs_cons, run_asg, run_asgT, run_par, run_aug, run_app, run_seti, run_expr, run_iff, run_whl, run_fr, run_ret, run_retN, run_pass, run_brk, run_cont, ev_var, ev_cst, ev_tup, ev_lst, ev_bin, ev_neg, ev_cmp, ev_cmp2, ev_and, ev_or, ev_not, ev_ife, ev_ix, ev_sl, ev_call, ev_bi, ev_isi, ev_mt1, ev_lc, ev_ali, ev_mkT, ev_callT, run_tape, run_mpar, evM_nil, evM_cons, thaw_d, thaw_fr, thaw_pl, asgs, run_gset, run_gpop, glL, putG, setG, fin_next, fin_ret, fin_exc, fin_any, seq_any, evs_nil, evs_cons, evL_nil, evL_cons, evG_nil, evG_cons, evT_yes, evT_not, evT_and, evT_or, evT_ife, evT_val, evO_no, evO_so, evI_ex, evI_rng1, evI_rng2, evI_zip, evI_enm, evI_rng3, zip_tup, zip_lst, tru_bl, tru_int, R.bind_ok, FR.of_ok, seq_next, seq_ret, seq_brk, seq_cont, seq_exc, seq_ite, of_some, of_none, get_d, get_fr, get_pl, cont_dat, cont_own, cont_bor, cont_lck, frz_d, frz_fr, asg_d, asg_fr, argF, argT, gets_nil, gets_cons, ags_nil, ags_cons, ag_d, lents_d, lents_pl, lents_nil, backs_nil, backs_d, backs_pl, backW, lock_d, lock_fr, lock_pl, setW, tgD, tgsD, normW, finA, List.getElem?_cons_zero, List.getElem?_cons_succ, List.set_cons_zero, List.set_cons_succ, Option.bind_some, Option.bind_none, Option.map_some, Option.map_none, List.map_cons, List.map_nil, List.replicate, List.cons_append, List.nil_append, Bool.and_true, Bool.and_self, if_true, if_false, Bool.false_eq_true, reduceCtorEq, List.length_cons, List.length_nil, Nat.reduceAdd, Nat.reduceSub, List.all_cons, List.all_nil, List.getD_cons_zero, List.getD_cons_succ, plainVs, backV, wipeW, biD, len_lst, len_tup, len_scr, tupleD, listD, allD, intD, absD, isiD, isiO_non, isiO_bl, isiO_int, isiO_str, isiO_tup, isiO_lst, isiO_scr, len_gl, x_gl, isN, b_add, b_sub, b_mulr, b_mull, b_fdiv, b_mod, b_pow, b_shl, b_shr, b_band, b_bor, b_bxor, b_addt, b_addl, b_repl, c_eqi, c_eqs, c_eqb, c_nei, c_nes, c_lt, c_le, c_gt, c_ge, c_is, c_isn, c_isb, c_isnb, isB, c_in, x_lst, x_tup, x_scr, it_lst, it_tup, it_scr, Bool.not_true, Bool.not_false, id_eq, blsOf, intsOf, strsOf, and_self, true_and, and_true, Nat.reduceMul, Nat.reducePow, Nat.reduceLeDiff, Int.reduceLT, Int.reduceLE, Int.reduceNeg, Int.reducePow, Int.reduceToNat, Int.reduceMul, Int.reduceAdd, Int.reduceSub, List.flatten_cons, List.flatten_nil, List.append_nil, line_nil, line_n, decide_true, decide_false, isLess, h 0]
  | _ => simp only [runs_nil, runs_cons, run_asg, run_asgT, run_par, run_aug, run_app, run_seti, run_expr, run_iff, run_whl, run_fr, run_ret, run_retN, run_pass, run_brk, run_cont, ev_var, ev_cst, ev_tup, ev_lst, ev_bin, ev_neg, ev_cmp, ev_cmp2, ev_and, ev_or, ev_not, ev_ife, ev_ix, ev_sl, ev_call, ev_bi, ev_isi, ev_mt1, ev_lc, ev_ali, ev_mkT, ev_callT, run_tape, run_mpar, evM_nil, evM_cons, thaw_d, thaw_fr, thaw_pl, asgs, run_gset, run_gpop, glL, putG, setG, fin_next, fin_ret, fin_exc, fin_any, seq_any, evs_nil, evs_cons, evL_nil, evL_cons, evG_nil, evG_cons, evT_yes, evT_not, evT_and, evT_or, evT_ife, evT_val, evO_no, evO_so, evI_ex, evI_rng1, evI_rng2, evI_zip, evI_enm, evI_rng3, zip_tup, zip_lst, tru_bl, tru_int, R.bind_ok, FR.of_ok, seq_next, seq_ret, seq_brk, seq_cont, seq_exc, seq_ite, of_some, of_none, get_d, get_fr, get_pl, cont_dat, cont_own, cont_bor, cont_lck, frz_d, frz_fr, asg_d, asg_fr, argF, argT, gets_nil, gets_cons, ags_nil, ags_cons, ag_d, lents_d, lents_pl, lents_nil, backs_nil, backs_d, backs_pl, backW, lock_d, lock_fr, lock_pl, setW, tgD, tgsD, normW, finA, List.getElem?_cons_zero, List.getElem?_cons_succ, List.set_cons_zero, List.set_cons_succ, Option.bind_some, Option.bind_none, Option.map_some, Option.map_none, List.map_cons, List.map_nil, List.replicate, List.cons_append, List.nil_append, Bool.and_true, Bool.and_self, if_true, if_false, Bool.false_eq_true, reduceCtorEq, List.length_cons, List.length_nil, Nat.reduceAdd, Nat.reduceSub, List.all_cons, List.all_nil, List.getD_cons_zero, List.getD_cons_succ, plainVs, backV, wipeW, biD, len_lst, len_tup, len_scr, tupleD, listD, allD, intD, absD, isiD, isiO_non, isiO_bl, isiO_int, isiO_str, isiO_tup, isiO_lst, isiO_scr, len_gl, x_gl, isN, b_add, b_sub, b_mulr, b_mull, b_fdiv, b_mod, b_pow, b_shl, b_shr, b_band, b_bor, b_bxor, b_addt, b_addl, b_repl, c_eqi, c_eqs, c_eqb, c_nei, c_nes, c_lt, c_le, c_gt, c_ge, c_is, c_isn, c_isb, c_isnb, isB, c_in, x_lst, x_tup, x_scr, it_lst, it_tup, it_scr, Bool.not_true, Bool.not_false, id_eq, blsOf, intsOf, strsOf, and_self, true_and, and_true, Nat.reduceMul, Nat.reducePow, Nat.reduceLeDiff, Int.reduceLT, Int.reduceLE, Int.reduceNeg, Int.reducePow, Int.reduceToNat, Int.reduceMul, Int.reduceAdd, Int.reduceSub, List.flatten_cons, List.flatten_nil, List.append_nil, line_nil, line_n, decide_true, decide_false, isLess]
theorem word2 (k : Nat) {ds : List D} (hl : ds.length ≤ 1000) (hx : ∀ x ∈ ds, Sol x) : callK (prg rows) (k + 5) 17 [.dat (.tup ds)] = .ok (.d (wordP ds)) [.dat (.tup ds)] := by
  rw [callK_run p17]
  unfold runF c__law_word
  rw [if_pos ⟨rfl, rfl⟩]
  have lc : ∀ φ : Phi, lcRun (ev φ (.and (.isi (.var 2) 0) (.and (.not (.isi (.var 2) 1)) (.cmp2 .LtE .LtE (.cst (.int 0)) (.var 2) (.cst (.int 255)))))) (.name 2) (evT φ .yes) [2] (some ([.dat (.tup ds), .un, .un], id)) ds = .ok (.fr (.lst (ds.map fun x => .bl (isLess 256 x)))) [.dat (.tup ds), .un, .un] := fun φ => by
    rw [lcRun_ok rfl (lcGo_all (fun x => .bl (isLess 256 x)) (fun x h => less_elt (hx x h)) (fun _ => rfl) (fun _ => rfl) (line_k hl))]
    rfl
  have al : (ds.map (isLess 256)).all id = ds.all (isLess 256) := by rw [List.all_map]; rfl
  by_cases h5 : ds.length = 5
  · match ds, h5 with
    | [u0, u1, u2, u3, u4], _ =>
    simp only [List.map_cons, List.map_nil] at lc
    simp only [List.map_cons, List.map_nil, List.all_cons, List.all_nil, id_eq, Bool.and_true] at al
    simp only [runs_nil, runs_cons, run_asg, run_asgT, run_par, run_aug, run_app, run_seti, run_expr, run_iff, run_whl, run_fr, run_ret, run_retN, run_pass, run_brk, run_cont, ev_var, ev_cst, ev_tup, ev_lst, ev_bin, ev_neg, ev_cmp, ev_cmp2, ev_and, ev_or, ev_not, ev_ife, ev_ix, ev_sl, ev_call, ev_bi, ev_isi, ev_mt1, ev_lc, ev_ali, ev_mkT, ev_callT, run_tape, run_mpar, evM_nil, evM_cons, thaw_d, thaw_fr, thaw_pl, asgs, run_gset, run_gpop, glL, putG, setG, fin_next, fin_ret, fin_exc, fin_any, seq_any, evs_nil, evs_cons, evL_nil, evL_cons, evG_nil, evG_cons, evT_yes, evT_not, evT_and, evT_or, evT_ife, evT_val, evO_no, evO_so, evI_ex, evI_rng1, evI_rng2, evI_zip, evI_enm, evI_rng3, zip_tup, zip_lst, tru_bl, tru_int, R.bind_ok, FR.of_ok, seq_next, seq_ret, seq_brk, seq_cont, seq_exc, seq_ite, of_some, of_none, get_d, get_fr, get_pl, cont_dat, cont_own, cont_bor, cont_lck, frz_d, frz_fr, asg_d, asg_fr, argF, argT, gets_nil, gets_cons, ags_nil, ags_cons, ag_d, lents_d, lents_pl, lents_nil, backs_nil, backs_d, backs_pl, backW, lock_d, lock_fr, lock_pl, setW, tgD, tgsD, normW, finA, List.getElem?_cons_zero, List.getElem?_cons_succ, List.set_cons_zero, List.set_cons_succ, Option.bind_some, Option.bind_none, Option.map_some, Option.map_none, List.map_cons, List.map_nil, List.replicate, List.cons_append, List.nil_append, Bool.and_true, Bool.and_self, if_true, if_false, Bool.false_eq_true, reduceCtorEq, List.length_cons, List.length_nil, Nat.reduceAdd, Nat.reduceSub, List.all_cons, List.all_nil, List.getD_cons_zero, List.getD_cons_succ, plainVs, backV, wipeW, biD, len_lst, len_tup, len_scr, tupleD, listD, allD, intD, absD, isiD, isiO_non, isiO_bl, isiO_int, isiO_str, isiO_tup, isiO_lst, isiO_scr, len_gl, x_gl, isN, b_add, b_sub, b_mulr, b_mull, b_fdiv, b_mod, b_pow, b_shl, b_shr, b_band, b_bor, b_bxor, b_addt, b_addl, b_repl, c_eqi, c_eqs, c_eqb, c_nei, c_nes, c_lt, c_le, c_gt, c_ge, c_is, c_isn, c_isb, c_isnb, isB, c_in, x_lst, x_tup, x_scr, it_lst, it_tup, it_scr, Bool.not_true, Bool.not_false, id_eq, blsOf, intsOf, strsOf, and_self, true_and, and_true, Nat.reduceMul, Nat.reducePow, Nat.reduceLeDiff, Int.reduceLT, Int.reduceLE, Int.reduceNeg, Int.reducePow, Int.reduceToNat, Int.reduceMul, Int.reduceAdd, Int.reduceSub, List.flatten_cons, List.flatten_nil, List.append_nil, line_nil, line_n, decide_true, decide_false, c_nin, in57l, n5, e57, Bool.or_false, Bool.or_true, Bool.true_or, Bool.false_or]
    rw [lc]
    unfold wordP
    cases q : [u0, u1, u2, u3, u4].all (isLess 256) with
    | false =>
      simp only [List.all_cons, List.all_nil, Bool.and_true] at q
      simp only [runs_nil, runs_cons, run_asg, run_asgT, run_par, run_aug, run_app, run_seti, run_expr, run_iff, run_whl, run_fr, run_ret, run_retN, run_pass, run_brk, run_cont, ev_var, ev_cst, ev_tup, ev_lst, ev_bin, ev_neg, ev_cmp, ev_cmp2, ev_and, ev_or, ev_not, ev_ife, ev_ix, ev_sl, ev_call, ev_bi, ev_isi, ev_mt1, ev_lc, ev_ali, ev_mkT, ev_callT, run_tape, run_mpar, evM_nil, evM_cons, thaw_d, thaw_fr, thaw_pl, asgs, run_gset, run_gpop, glL, putG, setG, fin_next, fin_ret, fin_exc, fin_any, seq_any, evs_nil, evs_cons, evL_nil, evL_cons, evG_nil, evG_cons, evT_yes, evT_not, evT_and, evT_or, evT_ife, evT_val, evO_no, evO_so, evI_ex, evI_rng1, evI_rng2, evI_zip, evI_enm, evI_rng3, zip_tup, zip_lst, tru_bl, tru_int, R.bind_ok, FR.of_ok, seq_next, seq_ret, seq_brk, seq_cont, seq_exc, seq_ite, of_some, of_none, get_d, get_fr, get_pl, cont_dat, cont_own, cont_bor, cont_lck, frz_d, frz_fr, asg_d, asg_fr, argF, argT, gets_nil, gets_cons, ags_nil, ags_cons, ag_d, lents_d, lents_pl, lents_nil, backs_nil, backs_d, backs_pl, backW, lock_d, lock_fr, lock_pl, setW, tgD, tgsD, normW, finA, List.getElem?_cons_zero, List.getElem?_cons_succ, List.set_cons_zero, List.set_cons_succ, Option.bind_some, Option.bind_none, Option.map_some, Option.map_none, List.map_cons, List.map_nil, List.replicate, List.cons_append, List.nil_append, Bool.and_true, Bool.and_self, if_true, if_false, Bool.false_eq_true, reduceCtorEq, List.length_cons, List.length_nil, Nat.reduceAdd, Nat.reduceSub, List.all_cons, List.all_nil, List.getD_cons_zero, List.getD_cons_succ, plainVs, backV, wipeW, biD, len_lst, len_tup, len_scr, tupleD, listD, allD, intD, absD, isiD, isiO_non, isiO_bl, isiO_int, isiO_str, isiO_tup, isiO_lst, isiO_scr, len_gl, x_gl, isN, b_add, b_sub, b_mulr, b_mull, b_fdiv, b_mod, b_pow, b_shl, b_shr, b_band, b_bor, b_bxor, b_addt, b_addl, b_repl, c_eqi, c_eqs, c_eqb, c_nei, c_nes, c_lt, c_le, c_gt, c_ge, c_is, c_isn, c_isb, c_isnb, isB, c_in, x_lst, x_tup, x_scr, it_lst, it_tup, it_scr, Bool.not_true, Bool.not_false, id_eq, blsOf, intsOf, strsOf, and_self, true_and, and_true, Nat.reduceMul, Nat.reducePow, Nat.reduceLeDiff, Int.reduceLT, Int.reduceLE, Int.reduceNeg, Int.reducePow, Int.reduceToNat, Int.reduceMul, Int.reduceAdd, Int.reduceSub, List.flatten_cons, List.flatten_nil, List.append_nil, line_nil, line_n, decide_true, decide_false, q]
    | true =>
      obtain ⟨is, he, _⟩ := ints_of q
      simp only [List.all_cons, List.all_nil, Bool.and_true] at q
      match is, he with
      | [a, b, c, d, e], he =>
      cases he
      unfold wordD
      unfold hwB
      by_cases q1 : 1 ≤ b
      · by_cases q2 : b ≤ 200
        · by_cases q3 : 1 ≤ c
          · by_cases q4 : c ≤ 201
            · by_cases q5 : a = 1
              · subst q5
                simp only [runs_nil, runs_cons, run_asg, run_asgT, run_par, run_aug, run_app, run_seti, run_expr, run_iff, run_whl, run_fr, run_ret, run_retN, run_pass, run_brk, run_cont, ev_var, ev_cst, ev_tup, ev_lst, ev_bin, ev_neg, ev_cmp, ev_cmp2, ev_and, ev_or, ev_not, ev_ife, ev_ix, ev_sl, ev_call, ev_bi, ev_isi, ev_mt1, ev_lc, ev_ali, ev_mkT, ev_callT, run_tape, run_mpar, evM_nil, evM_cons, thaw_d, thaw_fr, thaw_pl, asgs, run_gset, run_gpop, glL, putG, setG, fin_next, fin_ret, fin_exc, fin_any, seq_any, evs_nil, evs_cons, evL_nil, evL_cons, evG_nil, evG_cons, evT_yes, evT_not, evT_and, evT_or, evT_ife, evT_val, evO_no, evO_so, evI_ex, evI_rng1, evI_rng2, evI_zip, evI_enm, evI_rng3, zip_tup, zip_lst, tru_bl, tru_int, R.bind_ok, FR.of_ok, seq_next, seq_ret, seq_brk, seq_cont, seq_exc, seq_ite, of_some, of_none, get_d, get_fr, get_pl, cont_dat, cont_own, cont_bor, cont_lck, frz_d, frz_fr, asg_d, asg_fr, argF, argT, gets_nil, gets_cons, ags_nil, ags_cons, ag_d, lents_d, lents_pl, lents_nil, backs_nil, backs_d, backs_pl, backW, lock_d, lock_fr, lock_pl, setW, tgD, tgsD, normW, finA, List.getElem?_cons_zero, List.getElem?_cons_succ, List.set_cons_zero, List.set_cons_succ, Option.bind_some, Option.bind_none, Option.map_some, Option.map_none, List.map_cons, List.map_nil, List.replicate, List.cons_append, List.nil_append, Bool.and_true, Bool.and_self, if_true, if_false, Bool.false_eq_true, reduceCtorEq, List.length_cons, List.length_nil, Nat.reduceAdd, Nat.reduceSub, List.all_cons, List.all_nil, List.getD_cons_zero, List.getD_cons_succ, plainVs, backV, wipeW, biD, len_lst, len_tup, len_scr, tupleD, listD, allD, intD, absD, isiD, isiO_non, isiO_bl, isiO_int, isiO_str, isiO_tup, isiO_lst, isiO_scr, len_gl, x_gl, isN, b_add, b_sub, b_mulr, b_mull, b_fdiv, b_mod, b_pow, b_shl, b_shr, b_band, b_bor, b_bxor, b_addt, b_addl, b_repl, c_eqi, c_eqs, c_eqb, c_nei, c_nes, c_lt, c_le, c_gt, c_ge, c_is, c_isn, c_isb, c_isnb, isB, c_in, x_lst, x_tup, x_scr, it_lst, it_tup, it_scr, Bool.not_true, Bool.not_false, id_eq, blsOf, intsOf, strsOf, and_self, true_and, and_true, Nat.reduceMul, Nat.reducePow, Nat.reduceLeDiff, Int.reduceLT, Int.reduceLE, Int.reduceNeg, Int.reducePow, Int.reduceToNat, Int.reduceMul, Int.reduceAdd, Int.reduceSub, List.flatten_cons, List.flatten_nil, List.append_nil, line_nil, line_n, decide_true, decide_false, q, q1, q2, q3, q4, at_0, at_1, at_2, at_3, at_4, n5, e21, e12, e57, e75, Bool.or_false, Bool.or_true, Bool.true_or, Bool.false_or, Bool.true_and]
              · by_cases q6 : a = 2
                · subst q6
                  simp only [runs_nil, runs_cons, run_asg, run_asgT, run_par, run_aug, run_app, run_seti, run_expr, run_iff, run_whl, run_fr, run_ret, run_retN, run_pass, run_brk, run_cont, ev_var, ev_cst, ev_tup, ev_lst, ev_bin, ev_neg, ev_cmp, ev_cmp2, ev_and, ev_or, ev_not, ev_ife, ev_ix, ev_sl, ev_call, ev_bi, ev_isi, ev_mt1, ev_lc, ev_ali, ev_mkT, ev_callT, run_tape, run_mpar, evM_nil, evM_cons, thaw_d, thaw_fr, thaw_pl, asgs, run_gset, run_gpop, glL, putG, setG, fin_next, fin_ret, fin_exc, fin_any, seq_any, evs_nil, evs_cons, evL_nil, evL_cons, evG_nil, evG_cons, evT_yes, evT_not, evT_and, evT_or, evT_ife, evT_val, evO_no, evO_so, evI_ex, evI_rng1, evI_rng2, evI_zip, evI_enm, evI_rng3, zip_tup, zip_lst, tru_bl, tru_int, R.bind_ok, FR.of_ok, seq_next, seq_ret, seq_brk, seq_cont, seq_exc, seq_ite, of_some, of_none, get_d, get_fr, get_pl, cont_dat, cont_own, cont_bor, cont_lck, frz_d, frz_fr, asg_d, asg_fr, argF, argT, gets_nil, gets_cons, ags_nil, ags_cons, ag_d, lents_d, lents_pl, lents_nil, backs_nil, backs_d, backs_pl, backW, lock_d, lock_fr, lock_pl, setW, tgD, tgsD, normW, finA, List.getElem?_cons_zero, List.getElem?_cons_succ, List.set_cons_zero, List.set_cons_succ, Option.bind_some, Option.bind_none, Option.map_some, Option.map_none, List.map_cons, List.map_nil, List.replicate, List.cons_append, List.nil_append, Bool.and_true, Bool.and_self, if_true, if_false, Bool.false_eq_true, reduceCtorEq, List.length_cons, List.length_nil, Nat.reduceAdd, Nat.reduceSub, List.all_cons, List.all_nil, List.getD_cons_zero, List.getD_cons_succ, plainVs, backV, wipeW, biD, len_lst, len_tup, len_scr, tupleD, listD, allD, intD, absD, isiD, isiO_non, isiO_bl, isiO_int, isiO_str, isiO_tup, isiO_lst, isiO_scr, len_gl, x_gl, isN, b_add, b_sub, b_mulr, b_mull, b_fdiv, b_mod, b_pow, b_shl, b_shr, b_band, b_bor, b_bxor, b_addt, b_addl, b_repl, c_eqi, c_eqs, c_eqb, c_nei, c_nes, c_lt, c_le, c_gt, c_ge, c_is, c_isn, c_isb, c_isnb, isB, c_in, x_lst, x_tup, x_scr, it_lst, it_tup, it_scr, Bool.not_true, Bool.not_false, id_eq, blsOf, intsOf, strsOf, and_self, true_and, and_true, Nat.reduceMul, Nat.reducePow, Nat.reduceLeDiff, Int.reduceLT, Int.reduceLE, Int.reduceNeg, Int.reducePow, Int.reduceToNat, Int.reduceMul, Int.reduceAdd, Int.reduceSub, List.flatten_cons, List.flatten_nil, List.append_nil, line_nil, line_n, decide_true, decide_false, q, q1, q2, q3, q4, at_0, at_1, at_2, at_3, at_4, n5, e21, e12, e57, e75, Bool.or_false, Bool.or_true, Bool.true_or, Bool.false_or, Bool.true_and]
                · simp only [runs_nil, runs_cons, run_asg, run_asgT, run_par, run_aug, run_app, run_seti, run_expr, run_iff, run_whl, run_fr, run_ret, run_retN, run_pass, run_brk, run_cont, ev_var, ev_cst, ev_tup, ev_lst, ev_bin, ev_neg, ev_cmp, ev_cmp2, ev_and, ev_or, ev_not, ev_ife, ev_ix, ev_sl, ev_call, ev_bi, ev_isi, ev_mt1, ev_lc, ev_ali, ev_mkT, ev_callT, run_tape, run_mpar, evM_nil, evM_cons, thaw_d, thaw_fr, thaw_pl, asgs, run_gset, run_gpop, glL, putG, setG, fin_next, fin_ret, fin_exc, fin_any, seq_any, evs_nil, evs_cons, evL_nil, evL_cons, evG_nil, evG_cons, evT_yes, evT_not, evT_and, evT_or, evT_ife, evT_val, evO_no, evO_so, evI_ex, evI_rng1, evI_rng2, evI_zip, evI_enm, evI_rng3, zip_tup, zip_lst, tru_bl, tru_int, R.bind_ok, FR.of_ok, seq_next, seq_ret, seq_brk, seq_cont, seq_exc, seq_ite, of_some, of_none, get_d, get_fr, get_pl, cont_dat, cont_own, cont_bor, cont_lck, frz_d, frz_fr, asg_d, asg_fr, argF, argT, gets_nil, gets_cons, ags_nil, ags_cons, ag_d, lents_d, lents_pl, lents_nil, backs_nil, backs_d, backs_pl, backW, lock_d, lock_fr, lock_pl, setW, tgD, tgsD, normW, finA, List.getElem?_cons_zero, List.getElem?_cons_succ, List.set_cons_zero, List.set_cons_succ, Option.bind_some, Option.bind_none, Option.map_some, Option.map_none, List.map_cons, List.map_nil, List.replicate, List.cons_append, List.nil_append, Bool.and_true, Bool.and_self, if_true, if_false, Bool.false_eq_true, reduceCtorEq, List.length_cons, List.length_nil, Nat.reduceAdd, Nat.reduceSub, List.all_cons, List.all_nil, List.getD_cons_zero, List.getD_cons_succ, plainVs, backV, wipeW, biD, len_lst, len_tup, len_scr, tupleD, listD, allD, intD, absD, isiD, isiO_non, isiO_bl, isiO_int, isiO_str, isiO_tup, isiO_lst, isiO_scr, len_gl, x_gl, isN, b_add, b_sub, b_mulr, b_mull, b_fdiv, b_mod, b_pow, b_shl, b_shr, b_band, b_bor, b_bxor, b_addt, b_addl, b_repl, c_eqi, c_eqs, c_eqb, c_nei, c_nes, c_lt, c_le, c_gt, c_ge, c_is, c_isn, c_isb, c_isnb, isB, c_in, x_lst, x_tup, x_scr, it_lst, it_tup, it_scr, Bool.not_true, Bool.not_false, id_eq, blsOf, intsOf, strsOf, and_self, true_and, and_true, Nat.reduceMul, Nat.reducePow, Nat.reduceLeDiff, Int.reduceLT, Int.reduceLE, Int.reduceNeg, Int.reducePow, Int.reduceToNat, Int.reduceMul, Int.reduceAdd, Int.reduceSub, List.flatten_cons, List.flatten_nil, List.append_nil, line_nil, line_n, decide_true, decide_false, q, q1, q2, q3, q4, q5, q6, at_0, at_1, at_2, at_3, at_4, n5, e21, e12, e57, e75, Bool.or_false, Bool.or_true, Bool.true_or, Bool.false_or, Bool.true_and]
            · simp only [runs_nil, runs_cons, run_asg, run_asgT, run_par, run_aug, run_app, run_seti, run_expr, run_iff, run_whl, run_fr, run_ret, run_retN, run_pass, run_brk, run_cont, ev_var, ev_cst, ev_tup, ev_lst, ev_bin, ev_neg, ev_cmp, ev_cmp2, ev_and, ev_or, ev_not, ev_ife, ev_ix, ev_sl, ev_call, ev_bi, ev_isi, ev_mt1, ev_lc, ev_ali, ev_mkT, ev_callT, run_tape, run_mpar, evM_nil, evM_cons, thaw_d, thaw_fr, thaw_pl, asgs, run_gset, run_gpop, glL, putG, setG, fin_next, fin_ret, fin_exc, fin_any, seq_any, evs_nil, evs_cons, evL_nil, evL_cons, evG_nil, evG_cons, evT_yes, evT_not, evT_and, evT_or, evT_ife, evT_val, evO_no, evO_so, evI_ex, evI_rng1, evI_rng2, evI_zip, evI_enm, evI_rng3, zip_tup, zip_lst, tru_bl, tru_int, R.bind_ok, FR.of_ok, seq_next, seq_ret, seq_brk, seq_cont, seq_exc, seq_ite, of_some, of_none, get_d, get_fr, get_pl, cont_dat, cont_own, cont_bor, cont_lck, frz_d, frz_fr, asg_d, asg_fr, argF, argT, gets_nil, gets_cons, ags_nil, ags_cons, ag_d, lents_d, lents_pl, lents_nil, backs_nil, backs_d, backs_pl, backW, lock_d, lock_fr, lock_pl, setW, tgD, tgsD, normW, finA, List.getElem?_cons_zero, List.getElem?_cons_succ, List.set_cons_zero, List.set_cons_succ, Option.bind_some, Option.bind_none, Option.map_some, Option.map_none, List.map_cons, List.map_nil, List.replicate, List.cons_append, List.nil_append, Bool.and_true, Bool.and_self, if_true, if_false, Bool.false_eq_true, reduceCtorEq, List.length_cons, List.length_nil, Nat.reduceAdd, Nat.reduceSub, List.all_cons, List.all_nil, List.getD_cons_zero, List.getD_cons_succ, plainVs, backV, wipeW, biD, len_lst, len_tup, len_scr, tupleD, listD, allD, intD, absD, isiD, isiO_non, isiO_bl, isiO_int, isiO_str, isiO_tup, isiO_lst, isiO_scr, len_gl, x_gl, isN, b_add, b_sub, b_mulr, b_mull, b_fdiv, b_mod, b_pow, b_shl, b_shr, b_band, b_bor, b_bxor, b_addt, b_addl, b_repl, c_eqi, c_eqs, c_eqb, c_nei, c_nes, c_lt, c_le, c_gt, c_ge, c_is, c_isn, c_isb, c_isnb, isB, c_in, x_lst, x_tup, x_scr, it_lst, it_tup, it_scr, Bool.not_true, Bool.not_false, id_eq, blsOf, intsOf, strsOf, and_self, true_and, and_true, Nat.reduceMul, Nat.reducePow, Nat.reduceLeDiff, Int.reduceLT, Int.reduceLE, Int.reduceNeg, Int.reducePow, Int.reduceToNat, Int.reduceMul, Int.reduceAdd, Int.reduceSub, List.flatten_cons, List.flatten_nil, List.append_nil, line_nil, line_n, decide_true, decide_false, q, q1, q2, q3, q4, at_0, at_1, at_2, at_3, at_4, n5, e21, e12, e57, e75, Bool.or_false, Bool.or_true, Bool.true_or, Bool.false_or, Bool.true_and]
          · simp only [runs_nil, runs_cons, run_asg, run_asgT, run_par, run_aug, run_app, run_seti, run_expr, run_iff, run_whl, run_fr, run_ret, run_retN, run_pass, run_brk, run_cont, ev_var, ev_cst, ev_tup, ev_lst, ev_bin, ev_neg, ev_cmp, ev_cmp2, ev_and, ev_or, ev_not, ev_ife, ev_ix, ev_sl, ev_call, ev_bi, ev_isi, ev_mt1, ev_lc, ev_ali, ev_mkT, ev_callT, run_tape, run_mpar, evM_nil, evM_cons, thaw_d, thaw_fr, thaw_pl, asgs, run_gset, run_gpop, glL, putG, setG, fin_next, fin_ret, fin_exc, fin_any, seq_any, evs_nil, evs_cons, evL_nil, evL_cons, evG_nil, evG_cons, evT_yes, evT_not, evT_and, evT_or, evT_ife, evT_val, evO_no, evO_so, evI_ex, evI_rng1, evI_rng2, evI_zip, evI_enm, evI_rng3, zip_tup, zip_lst, tru_bl, tru_int, R.bind_ok, FR.of_ok, seq_next, seq_ret, seq_brk, seq_cont, seq_exc, seq_ite, of_some, of_none, get_d, get_fr, get_pl, cont_dat, cont_own, cont_bor, cont_lck, frz_d, frz_fr, asg_d, asg_fr, argF, argT, gets_nil, gets_cons, ags_nil, ags_cons, ag_d, lents_d, lents_pl, lents_nil, backs_nil, backs_d, backs_pl, backW, lock_d, lock_fr, lock_pl, setW, tgD, tgsD, normW, finA, List.getElem?_cons_zero, List.getElem?_cons_succ, List.set_cons_zero, List.set_cons_succ, Option.bind_some, Option.bind_none, Option.map_some, Option.map_none, List.map_cons, List.map_nil, List.replicate, List.cons_append, List.nil_append, Bool.and_true, Bool.and_self, if_true, if_false, Bool.false_eq_true, reduceCtorEq, List.length_cons, List.length_nil, Nat.reduceAdd, Nat.reduceSub, List.all_cons, List.all_nil, List.getD_cons_zero, List.getD_cons_succ, plainVs, backV, wipeW, biD, len_lst, len_tup, len_scr, tupleD, listD, allD, intD, absD, isiD, isiO_non, isiO_bl, isiO_int, isiO_str, isiO_tup, isiO_lst, isiO_scr, len_gl, x_gl, isN, b_add, b_sub, b_mulr, b_mull, b_fdiv, b_mod, b_pow, b_shl, b_shr, b_band, b_bor, b_bxor, b_addt, b_addl, b_repl, c_eqi, c_eqs, c_eqb, c_nei, c_nes, c_lt, c_le, c_gt, c_ge, c_is, c_isn, c_isb, c_isnb, isB, c_in, x_lst, x_tup, x_scr, it_lst, it_tup, it_scr, Bool.not_true, Bool.not_false, id_eq, blsOf, intsOf, strsOf, and_self, true_and, and_true, Nat.reduceMul, Nat.reducePow, Nat.reduceLeDiff, Int.reduceLT, Int.reduceLE, Int.reduceNeg, Int.reducePow, Int.reduceToNat, Int.reduceMul, Int.reduceAdd, Int.reduceSub, List.flatten_cons, List.flatten_nil, List.append_nil, line_nil, line_n, decide_true, decide_false, q, q1, q2, q3, at_0, at_1, at_2, at_3, at_4, n5, e21, e12, e57, e75, Bool.or_false, Bool.or_true, Bool.true_or, Bool.false_or, Bool.true_and, Bool.false_and]
        · simp only [runs_nil, runs_cons, run_asg, run_asgT, run_par, run_aug, run_app, run_seti, run_expr, run_iff, run_whl, run_fr, run_ret, run_retN, run_pass, run_brk, run_cont, ev_var, ev_cst, ev_tup, ev_lst, ev_bin, ev_neg, ev_cmp, ev_cmp2, ev_and, ev_or, ev_not, ev_ife, ev_ix, ev_sl, ev_call, ev_bi, ev_isi, ev_mt1, ev_lc, ev_ali, ev_mkT, ev_callT, run_tape, run_mpar, evM_nil, evM_cons, thaw_d, thaw_fr, thaw_pl, asgs, run_gset, run_gpop, glL, putG, setG, fin_next, fin_ret, fin_exc, fin_any, seq_any, evs_nil, evs_cons, evL_nil, evL_cons, evG_nil, evG_cons, evT_yes, evT_not, evT_and, evT_or, evT_ife, evT_val, evO_no, evO_so, evI_ex, evI_rng1, evI_rng2, evI_zip, evI_enm, evI_rng3, zip_tup, zip_lst, tru_bl, tru_int, R.bind_ok, FR.of_ok, seq_next, seq_ret, seq_brk, seq_cont, seq_exc, seq_ite, of_some, of_none, get_d, get_fr, get_pl, cont_dat, cont_own, cont_bor, cont_lck, frz_d, frz_fr, asg_d, asg_fr, argF, argT, gets_nil, gets_cons, ags_nil, ags_cons, ag_d, lents_d, lents_pl, lents_nil, backs_nil, backs_d, backs_pl, backW, lock_d, lock_fr, lock_pl, setW, tgD, tgsD, normW, finA, List.getElem?_cons_zero, List.getElem?_cons_succ, List.set_cons_zero, List.set_cons_succ, Option.bind_some, Option.bind_none, Option.map_some, Option.map_none, List.map_cons, List.map_nil, List.replicate, List.cons_append, List.nil_append, Bool.and_true, Bool.and_self, if_true, if_false, Bool.false_eq_true, reduceCtorEq, List.length_cons, List.length_nil, Nat.reduceAdd, Nat.reduceSub, List.all_cons, List.all_nil, List.getD_cons_zero, List.getD_cons_succ, plainVs, backV, wipeW, biD, len_lst, len_tup, len_scr, tupleD, listD, allD, intD, absD, isiD, isiO_non, isiO_bl, isiO_int, isiO_str, isiO_tup, isiO_lst, isiO_scr, len_gl, x_gl, isN, b_add, b_sub, b_mulr, b_mull, b_fdiv, b_mod, b_pow, b_shl, b_shr, b_band, b_bor, b_bxor, b_addt, b_addl, b_repl, c_eqi, c_eqs, c_eqb, c_nei, c_nes, c_lt, c_le, c_gt, c_ge, c_is, c_isn, c_isb, c_isnb, isB, c_in, x_lst, x_tup, x_scr, it_lst, it_tup, it_scr, Bool.not_true, Bool.not_false, id_eq, blsOf, intsOf, strsOf, and_self, true_and, and_true, Nat.reduceMul, Nat.reducePow, Nat.reduceLeDiff, Int.reduceLT, Int.reduceLE, Int.reduceNeg, Int.reducePow, Int.reduceToNat, Int.reduceMul, Int.reduceAdd, Int.reduceSub, List.flatten_cons, List.flatten_nil, List.append_nil, line_nil, line_n, decide_true, decide_false, q, q1, q2, at_0, at_1, at_2, at_3, at_4, n5, e21, e12, e57, e75, Bool.or_false, Bool.or_true, Bool.true_or, Bool.false_or, Bool.true_and, Bool.false_and]
      · simp only [runs_nil, runs_cons, run_asg, run_asgT, run_par, run_aug, run_app, run_seti, run_expr, run_iff, run_whl, run_fr, run_ret, run_retN, run_pass, run_brk, run_cont, ev_var, ev_cst, ev_tup, ev_lst, ev_bin, ev_neg, ev_cmp, ev_cmp2, ev_and, ev_or, ev_not, ev_ife, ev_ix, ev_sl, ev_call, ev_bi, ev_isi, ev_mt1, ev_lc, ev_ali, ev_mkT, ev_callT, run_tape, run_mpar, evM_nil, evM_cons, thaw_d, thaw_fr, thaw_pl, asgs, run_gset, run_gpop, glL, putG, setG, fin_next, fin_ret, fin_exc, fin_any, seq_any, evs_nil, evs_cons, evL_nil, evL_cons, evG_nil, evG_cons, evT_yes, evT_not, evT_and, evT_or, evT_ife, evT_val, evO_no, evO_so, evI_ex, evI_rng1, evI_rng2, evI_zip, evI_enm, evI_rng3, zip_tup, zip_lst, tru_bl, tru_int, R.bind_ok, FR.of_ok, seq_next, seq_ret, seq_brk, seq_cont, seq_exc, seq_ite, of_some, of_none, get_d, get_fr, get_pl, cont_dat, cont_own, cont_bor, cont_lck, frz_d, frz_fr, asg_d, asg_fr, argF, argT, gets_nil, gets_cons, ags_nil, ags_cons, ag_d, lents_d, lents_pl, lents_nil, backs_nil, backs_d, backs_pl, backW, lock_d, lock_fr, lock_pl, setW, tgD, tgsD, normW, finA, List.getElem?_cons_zero, List.getElem?_cons_succ, List.set_cons_zero, List.set_cons_succ, Option.bind_some, Option.bind_none, Option.map_some, Option.map_none, List.map_cons, List.map_nil, List.replicate, List.cons_append, List.nil_append, Bool.and_true, Bool.and_self, if_true, if_false, Bool.false_eq_true, reduceCtorEq, List.length_cons, List.length_nil, Nat.reduceAdd, Nat.reduceSub, List.all_cons, List.all_nil, List.getD_cons_zero, List.getD_cons_succ, plainVs, backV, wipeW, biD, len_lst, len_tup, len_scr, tupleD, listD, allD, intD, absD, isiD, isiO_non, isiO_bl, isiO_int, isiO_str, isiO_tup, isiO_lst, isiO_scr, len_gl, x_gl, isN, b_add, b_sub, b_mulr, b_mull, b_fdiv, b_mod, b_pow, b_shl, b_shr, b_band, b_bor, b_bxor, b_addt, b_addl, b_repl, c_eqi, c_eqs, c_eqb, c_nei, c_nes, c_lt, c_le, c_gt, c_ge, c_is, c_isn, c_isb, c_isnb, isB, c_in, x_lst, x_tup, x_scr, it_lst, it_tup, it_scr, Bool.not_true, Bool.not_false, id_eq, blsOf, intsOf, strsOf, and_self, true_and, and_true, Nat.reduceMul, Nat.reducePow, Nat.reduceLeDiff, Int.reduceLT, Int.reduceLE, Int.reduceNeg, Int.reducePow, Int.reduceToNat, Int.reduceMul, Int.reduceAdd, Int.reduceSub, List.flatten_cons, List.flatten_nil, List.append_nil, line_nil, line_n, decide_true, decide_false, q, q1, at_0, at_1, at_2, at_3, at_4, n5, e21, e12, e57, e75, Bool.or_false, Bool.or_true, Bool.true_or, Bool.false_or, Bool.true_and, Bool.false_and]
  · by_cases h7 : ds.length = 7
    · match ds, h7 with
      | [u0, u1, u2, u3, u4, u5, u6], _ =>
      simp only [List.map_cons, List.map_nil] at lc
      simp only [runs_nil, runs_cons, run_asg, run_asgT, run_par, run_aug, run_app, run_seti, run_expr, run_iff, run_whl, run_fr, run_ret, run_retN, run_pass, run_brk, run_cont, ev_var, ev_cst, ev_tup, ev_lst, ev_bin, ev_neg, ev_cmp, ev_cmp2, ev_and, ev_or, ev_not, ev_ife, ev_ix, ev_sl, ev_call, ev_bi, ev_isi, ev_mt1, ev_lc, ev_ali, ev_mkT, ev_callT, run_tape, run_mpar, evM_nil, evM_cons, thaw_d, thaw_fr, thaw_pl, asgs, run_gset, run_gpop, glL, putG, setG, fin_next, fin_ret, fin_exc, fin_any, seq_any, evs_nil, evs_cons, evL_nil, evL_cons, evG_nil, evG_cons, evT_yes, evT_not, evT_and, evT_or, evT_ife, evT_val, evO_no, evO_so, evI_ex, evI_rng1, evI_rng2, evI_zip, evI_enm, evI_rng3, zip_tup, zip_lst, tru_bl, tru_int, R.bind_ok, FR.of_ok, seq_next, seq_ret, seq_brk, seq_cont, seq_exc, seq_ite, of_some, of_none, get_d, get_fr, get_pl, cont_dat, cont_own, cont_bor, cont_lck, frz_d, frz_fr, asg_d, asg_fr, argF, argT, gets_nil, gets_cons, ags_nil, ags_cons, ag_d, lents_d, lents_pl, lents_nil, backs_nil, backs_d, backs_pl, backW, lock_d, lock_fr, lock_pl, setW, tgD, tgsD, normW, finA, List.getElem?_cons_zero, List.getElem?_cons_succ, List.set_cons_zero, List.set_cons_succ, Option.bind_some, Option.bind_none, Option.map_some, Option.map_none, List.map_cons, List.map_nil, List.replicate, List.cons_append, List.nil_append, Bool.and_true, Bool.and_self, if_true, if_false, Bool.false_eq_true, reduceCtorEq, List.length_cons, List.length_nil, Nat.reduceAdd, Nat.reduceSub, List.all_cons, List.all_nil, List.getD_cons_zero, List.getD_cons_succ, plainVs, backV, wipeW, biD, len_lst, len_tup, len_scr, tupleD, listD, allD, intD, absD, isiD, isiO_non, isiO_bl, isiO_int, isiO_str, isiO_tup, isiO_lst, isiO_scr, len_gl, x_gl, isN, b_add, b_sub, b_mulr, b_mull, b_fdiv, b_mod, b_pow, b_shl, b_shr, b_band, b_bor, b_bxor, b_addt, b_addl, b_repl, c_eqi, c_eqs, c_eqb, c_nei, c_nes, c_lt, c_le, c_gt, c_ge, c_is, c_isn, c_isb, c_isnb, isB, c_in, x_lst, x_tup, x_scr, it_lst, it_tup, it_scr, Bool.not_true, Bool.not_false, id_eq, blsOf, intsOf, strsOf, and_self, true_and, and_true, Nat.reduceMul, Nat.reducePow, Nat.reduceLeDiff, Int.reduceLT, Int.reduceLE, Int.reduceNeg, Int.reducePow, Int.reduceToNat, Int.reduceMul, Int.reduceAdd, Int.reduceSub, List.flatten_cons, List.flatten_nil, List.append_nil, line_nil, line_n, decide_true, decide_false, c_nin, in57l, n7, e75, Bool.or_false, Bool.or_true, Bool.true_or, Bool.false_or]
      rw [lc]
      unfold wordP
      cases q : [u0, u1, u2, u3, u4, u5, u6].all (isLess 256) with
      | false =>
        simp only [List.all_cons, List.all_nil, Bool.and_true] at q
        simp only [runs_nil, runs_cons, run_asg, run_asgT, run_par, run_aug, run_app, run_seti, run_expr, run_iff, run_whl, run_fr, run_ret, run_retN, run_pass, run_brk, run_cont, ev_var, ev_cst, ev_tup, ev_lst, ev_bin, ev_neg, ev_cmp, ev_cmp2, ev_and, ev_or, ev_not, ev_ife, ev_ix, ev_sl, ev_call, ev_bi, ev_isi, ev_mt1, ev_lc, ev_ali, ev_mkT, ev_callT, run_tape, run_mpar, evM_nil, evM_cons, thaw_d, thaw_fr, thaw_pl, asgs, run_gset, run_gpop, glL, putG, setG, fin_next, fin_ret, fin_exc, fin_any, seq_any, evs_nil, evs_cons, evL_nil, evL_cons, evG_nil, evG_cons, evT_yes, evT_not, evT_and, evT_or, evT_ife, evT_val, evO_no, evO_so, evI_ex, evI_rng1, evI_rng2, evI_zip, evI_enm, evI_rng3, zip_tup, zip_lst, tru_bl, tru_int, R.bind_ok, FR.of_ok, seq_next, seq_ret, seq_brk, seq_cont, seq_exc, seq_ite, of_some, of_none, get_d, get_fr, get_pl, cont_dat, cont_own, cont_bor, cont_lck, frz_d, frz_fr, asg_d, asg_fr, argF, argT, gets_nil, gets_cons, ags_nil, ags_cons, ag_d, lents_d, lents_pl, lents_nil, backs_nil, backs_d, backs_pl, backW, lock_d, lock_fr, lock_pl, setW, tgD, tgsD, normW, finA, List.getElem?_cons_zero, List.getElem?_cons_succ, List.set_cons_zero, List.set_cons_succ, Option.bind_some, Option.bind_none, Option.map_some, Option.map_none, List.map_cons, List.map_nil, List.replicate, List.cons_append, List.nil_append, Bool.and_true, Bool.and_self, if_true, if_false, Bool.false_eq_true, reduceCtorEq, List.length_cons, List.length_nil, Nat.reduceAdd, Nat.reduceSub, List.all_cons, List.all_nil, List.getD_cons_zero, List.getD_cons_succ, plainVs, backV, wipeW, biD, len_lst, len_tup, len_scr, tupleD, listD, allD, intD, absD, isiD, isiO_non, isiO_bl, isiO_int, isiO_str, isiO_tup, isiO_lst, isiO_scr, len_gl, x_gl, isN, b_add, b_sub, b_mulr, b_mull, b_fdiv, b_mod, b_pow, b_shl, b_shr, b_band, b_bor, b_bxor, b_addt, b_addl, b_repl, c_eqi, c_eqs, c_eqb, c_nei, c_nes, c_lt, c_le, c_gt, c_ge, c_is, c_isn, c_isb, c_isnb, isB, c_in, x_lst, x_tup, x_scr, it_lst, it_tup, it_scr, Bool.not_true, Bool.not_false, id_eq, blsOf, intsOf, strsOf, and_self, true_and, and_true, Nat.reduceMul, Nat.reducePow, Nat.reduceLeDiff, Int.reduceLT, Int.reduceLE, Int.reduceNeg, Int.reducePow, Int.reduceToNat, Int.reduceMul, Int.reduceAdd, Int.reduceSub, List.flatten_cons, List.flatten_nil, List.append_nil, line_nil, line_n, decide_true, decide_false, q]
      | true =>
        obtain ⟨is, he, _⟩ := ints_of q
        simp only [List.all_cons, List.all_nil, Bool.and_true] at q
        match is, he with
        | [a, b, c, d, e, f, g], he =>
        cases he
        unfold wordD
        unfold hwB addrB
        by_cases q1 : 1 ≤ b
        · by_cases q2 : b ≤ 200
          · by_cases q3 : 1 ≤ c
            · by_cases q4 : c ≤ 201
              · by_cases q5 : a = 1
                · subst q5
                  simp only [runs_nil, runs_cons, run_asg, run_asgT, run_par, run_aug, run_app, run_seti, run_expr, run_iff, run_whl, run_fr, run_ret, run_retN, run_pass, run_brk, run_cont, ev_var, ev_cst, ev_tup, ev_lst, ev_bin, ev_neg, ev_cmp, ev_cmp2, ev_and, ev_or, ev_not, ev_ife, ev_ix, ev_sl, ev_call, ev_bi, ev_isi, ev_mt1, ev_lc, ev_ali, ev_mkT, ev_callT, run_tape, run_mpar, evM_nil, evM_cons, thaw_d, thaw_fr, thaw_pl, asgs, run_gset, run_gpop, glL, putG, setG, fin_next, fin_ret, fin_exc, fin_any, seq_any, evs_nil, evs_cons, evL_nil, evL_cons, evG_nil, evG_cons, evT_yes, evT_not, evT_and, evT_or, evT_ife, evT_val, evO_no, evO_so, evI_ex, evI_rng1, evI_rng2, evI_zip, evI_enm, evI_rng3, zip_tup, zip_lst, tru_bl, tru_int, R.bind_ok, FR.of_ok, seq_next, seq_ret, seq_brk, seq_cont, seq_exc, seq_ite, of_some, of_none, get_d, get_fr, get_pl, cont_dat, cont_own, cont_bor, cont_lck, frz_d, frz_fr, asg_d, asg_fr, argF, argT, gets_nil, gets_cons, ags_nil, ags_cons, ag_d, lents_d, lents_pl, lents_nil, backs_nil, backs_d, backs_pl, backW, lock_d, lock_fr, lock_pl, setW, tgD, tgsD, normW, finA, List.getElem?_cons_zero, List.getElem?_cons_succ, List.set_cons_zero, List.set_cons_succ, Option.bind_some, Option.bind_none, Option.map_some, Option.map_none, List.map_cons, List.map_nil, List.replicate, List.cons_append, List.nil_append, Bool.and_true, Bool.and_self, if_true, if_false, Bool.false_eq_true, reduceCtorEq, List.length_cons, List.length_nil, Nat.reduceAdd, Nat.reduceSub, List.all_cons, List.all_nil, List.getD_cons_zero, List.getD_cons_succ, plainVs, backV, wipeW, biD, len_lst, len_tup, len_scr, tupleD, listD, allD, intD, absD, isiD, isiO_non, isiO_bl, isiO_int, isiO_str, isiO_tup, isiO_lst, isiO_scr, len_gl, x_gl, isN, b_add, b_sub, b_mulr, b_mull, b_fdiv, b_mod, b_pow, b_shl, b_shr, b_band, b_bor, b_bxor, b_addt, b_addl, b_repl, c_eqi, c_eqs, c_eqb, c_nei, c_nes, c_lt, c_le, c_gt, c_ge, c_is, c_isn, c_isb, c_isnb, isB, c_in, x_lst, x_tup, x_scr, it_lst, it_tup, it_scr, Bool.not_true, Bool.not_false, id_eq, blsOf, intsOf, strsOf, and_self, true_and, and_true, Nat.reduceMul, Nat.reducePow, Nat.reduceLeDiff, Int.reduceLT, Int.reduceLE, Int.reduceNeg, Int.reducePow, Int.reduceToNat, Int.reduceMul, Int.reduceAdd, Int.reduceSub, List.flatten_cons, List.flatten_nil, List.append_nil, line_nil, line_n, decide_true, decide_false, q, q1, q2, q3, q4, at_0, at_1, at_2, at_3, at_4, n7, e21, e12, e57, e75, Bool.or_false, Bool.or_true, Bool.true_or, Bool.false_or, Bool.true_and]
                · by_cases q6 : a = 2
                  · subst q6
                    by_cases r1 : 1 ≤ f
                    · by_cases r2 : f ≤ 30
                      · by_cases r3 : 1 ≤ g
                        · by_cases r4 : g ≤ 250
                          · simp only [runs_nil, runs_cons, run_asg, run_asgT, run_par, run_aug, run_app, run_seti, run_expr, run_iff, run_whl, run_fr, run_ret, run_retN, run_pass, run_brk, run_cont, ev_var, ev_cst, ev_tup, ev_lst, ev_bin, ev_neg, ev_cmp, ev_cmp2, ev_and, ev_or, ev_not, ev_ife, ev_ix, ev_sl, ev_call, ev_bi, ev_isi, ev_mt1, ev_lc, ev_ali, ev_mkT, ev_callT, run_tape, run_mpar, evM_nil, evM_cons, thaw_d, thaw_fr, thaw_pl, asgs, run_gset, run_gpop, glL, putG, setG, fin_next, fin_ret, fin_exc, fin_any, seq_any, evs_nil, evs_cons, evL_nil, evL_cons, evG_nil, evG_cons, evT_yes, evT_not, evT_and, evT_or, evT_ife, evT_val, evO_no, evO_so, evI_ex, evI_rng1, evI_rng2, evI_zip, evI_enm, evI_rng3, zip_tup, zip_lst, tru_bl, tru_int, R.bind_ok, FR.of_ok, seq_next, seq_ret, seq_brk, seq_cont, seq_exc, seq_ite, of_some, of_none, get_d, get_fr, get_pl, cont_dat, cont_own, cont_bor, cont_lck, frz_d, frz_fr, asg_d, asg_fr, argF, argT, gets_nil, gets_cons, ags_nil, ags_cons, ag_d, lents_d, lents_pl, lents_nil, backs_nil, backs_d, backs_pl, backW, lock_d, lock_fr, lock_pl, setW, tgD, tgsD, normW, finA, List.getElem?_cons_zero, List.getElem?_cons_succ, List.set_cons_zero, List.set_cons_succ, Option.bind_some, Option.bind_none, Option.map_some, Option.map_none, List.map_cons, List.map_nil, List.replicate, List.cons_append, List.nil_append, Bool.and_true, Bool.and_self, if_true, if_false, Bool.false_eq_true, reduceCtorEq, List.length_cons, List.length_nil, Nat.reduceAdd, Nat.reduceSub, List.all_cons, List.all_nil, List.getD_cons_zero, List.getD_cons_succ, plainVs, backV, wipeW, biD, len_lst, len_tup, len_scr, tupleD, listD, allD, intD, absD, isiD, isiO_non, isiO_bl, isiO_int, isiO_str, isiO_tup, isiO_lst, isiO_scr, len_gl, x_gl, isN, b_add, b_sub, b_mulr, b_mull, b_fdiv, b_mod, b_pow, b_shl, b_shr, b_band, b_bor, b_bxor, b_addt, b_addl, b_repl, c_eqi, c_eqs, c_eqb, c_nei, c_nes, c_lt, c_le, c_gt, c_ge, c_is, c_isn, c_isb, c_isnb, isB, c_in, x_lst, x_tup, x_scr, it_lst, it_tup, it_scr, Bool.not_true, Bool.not_false, id_eq, blsOf, intsOf, strsOf, and_self, true_and, and_true, Nat.reduceMul, Nat.reducePow, Nat.reduceLeDiff, Int.reduceLT, Int.reduceLE, Int.reduceNeg, Int.reducePow, Int.reduceToNat, Int.reduceMul, Int.reduceAdd, Int.reduceSub, List.flatten_cons, List.flatten_nil, List.append_nil, line_nil, line_n, decide_true, decide_false, q, q1, q2, q3, q4, r1, r2, r3, r4, at_0, at_1, at_2, at_3, at_4, at_5, at_6, n7, e21, e12, e57, e75, Bool.or_false, Bool.or_true, Bool.true_or, Bool.false_or, Bool.true_and]
                          · simp only [runs_nil, runs_cons, run_asg, run_asgT, run_par, run_aug, run_app, run_seti, run_expr, run_iff, run_whl, run_fr, run_ret, run_retN, run_pass, run_brk, run_cont, ev_var, ev_cst, ev_tup, ev_lst, ev_bin, ev_neg, ev_cmp, ev_cmp2, ev_and, ev_or, ev_not, ev_ife, ev_ix, ev_sl, ev_call, ev_bi, ev_isi, ev_mt1, ev_lc, ev_ali, ev_mkT, ev_callT, run_tape, run_mpar, evM_nil, evM_cons, thaw_d, thaw_fr, thaw_pl, asgs, run_gset, run_gpop, glL, putG, setG, fin_next, fin_ret, fin_exc, fin_any, seq_any, evs_nil, evs_cons, evL_nil, evL_cons, evG_nil, evG_cons, evT_yes, evT_not, evT_and, evT_or, evT_ife, evT_val, evO_no, evO_so, evI_ex, evI_rng1, evI_rng2, evI_zip, evI_enm, evI_rng3, zip_tup, zip_lst, tru_bl, tru_int, R.bind_ok, FR.of_ok, seq_next, seq_ret, seq_brk, seq_cont, seq_exc, seq_ite, of_some, of_none, get_d, get_fr, get_pl, cont_dat, cont_own, cont_bor, cont_lck, frz_d, frz_fr, asg_d, asg_fr, argF, argT, gets_nil, gets_cons, ags_nil, ags_cons, ag_d, lents_d, lents_pl, lents_nil, backs_nil, backs_d, backs_pl, backW, lock_d, lock_fr, lock_pl, setW, tgD, tgsD, normW, finA, List.getElem?_cons_zero, List.getElem?_cons_succ, List.set_cons_zero, List.set_cons_succ, Option.bind_some, Option.bind_none, Option.map_some, Option.map_none, List.map_cons, List.map_nil, List.replicate, List.cons_append, List.nil_append, Bool.and_true, Bool.and_self, if_true, if_false, Bool.false_eq_true, reduceCtorEq, List.length_cons, List.length_nil, Nat.reduceAdd, Nat.reduceSub, List.all_cons, List.all_nil, List.getD_cons_zero, List.getD_cons_succ, plainVs, backV, wipeW, biD, len_lst, len_tup, len_scr, tupleD, listD, allD, intD, absD, isiD, isiO_non, isiO_bl, isiO_int, isiO_str, isiO_tup, isiO_lst, isiO_scr, len_gl, x_gl, isN, b_add, b_sub, b_mulr, b_mull, b_fdiv, b_mod, b_pow, b_shl, b_shr, b_band, b_bor, b_bxor, b_addt, b_addl, b_repl, c_eqi, c_eqs, c_eqb, c_nei, c_nes, c_lt, c_le, c_gt, c_ge, c_is, c_isn, c_isb, c_isnb, isB, c_in, x_lst, x_tup, x_scr, it_lst, it_tup, it_scr, Bool.not_true, Bool.not_false, id_eq, blsOf, intsOf, strsOf, and_self, true_and, and_true, Nat.reduceMul, Nat.reducePow, Nat.reduceLeDiff, Int.reduceLT, Int.reduceLE, Int.reduceNeg, Int.reducePow, Int.reduceToNat, Int.reduceMul, Int.reduceAdd, Int.reduceSub, List.flatten_cons, List.flatten_nil, List.append_nil, line_nil, line_n, decide_true, decide_false, q, q1, q2, q3, q4, r1, r2, r3, r4, at_0, at_1, at_2, at_3, at_4, at_5, at_6, n7, e21, e12, e57, e75, Bool.or_false, Bool.or_true, Bool.true_or, Bool.false_or, Bool.true_and]
                        · simp only [runs_nil, runs_cons, run_asg, run_asgT, run_par, run_aug, run_app, run_seti, run_expr, run_iff, run_whl, run_fr, run_ret, run_retN, run_pass, run_brk, run_cont, ev_var, ev_cst, ev_tup, ev_lst, ev_bin, ev_neg, ev_cmp, ev_cmp2, ev_and, ev_or, ev_not, ev_ife, ev_ix, ev_sl, ev_call, ev_bi, ev_isi, ev_mt1, ev_lc, ev_ali, ev_mkT, ev_callT, run_tape, run_mpar, evM_nil, evM_cons, thaw_d, thaw_fr, thaw_pl, asgs, run_gset, run_gpop, glL, putG, setG, fin_next, fin_ret, fin_exc, fin_any, seq_any, evs_nil, evs_cons, evL_nil, evL_cons, evG_nil, evG_cons, evT_yes, evT_not, evT_and, evT_or, evT_ife, evT_val, evO_no, evO_so, evI_ex, evI_rng1, evI_rng2, evI_zip, evI_enm, evI_rng3, zip_tup, zip_lst, tru_bl, tru_int, R.bind_ok, FR.of_ok, seq_next, seq_ret, seq_brk, seq_cont, seq_exc, seq_ite, of_some, of_none, get_d, get_fr, get_pl, cont_dat, cont_own, cont_bor, cont_lck, frz_d, frz_fr, asg_d, asg_fr, argF, argT, gets_nil, gets_cons, ags_nil, ags_cons, ag_d, lents_d, lents_pl, lents_nil, backs_nil, backs_d, backs_pl, backW, lock_d, lock_fr, lock_pl, setW, tgD, tgsD, normW, finA, List.getElem?_cons_zero, List.getElem?_cons_succ, List.set_cons_zero, List.set_cons_succ, Option.bind_some, Option.bind_none, Option.map_some, Option.map_none, List.map_cons, List.map_nil, List.replicate, List.cons_append, List.nil_append, Bool.and_true, Bool.and_self, if_true, if_false, Bool.false_eq_true, reduceCtorEq, List.length_cons, List.length_nil, Nat.reduceAdd, Nat.reduceSub, List.all_cons, List.all_nil, List.getD_cons_zero, List.getD_cons_succ, plainVs, backV, wipeW, biD, len_lst, len_tup, len_scr, tupleD, listD, allD, intD, absD, isiD, isiO_non, isiO_bl, isiO_int, isiO_str, isiO_tup, isiO_lst, isiO_scr, len_gl, x_gl, isN, b_add, b_sub, b_mulr, b_mull, b_fdiv, b_mod, b_pow, b_shl, b_shr, b_band, b_bor, b_bxor, b_addt, b_addl, b_repl, c_eqi, c_eqs, c_eqb, c_nei, c_nes, c_lt, c_le, c_gt, c_ge, c_is, c_isn, c_isb, c_isnb, isB, c_in, x_lst, x_tup, x_scr, it_lst, it_tup, it_scr, Bool.not_true, Bool.not_false, id_eq, blsOf, intsOf, strsOf, and_self, true_and, and_true, Nat.reduceMul, Nat.reducePow, Nat.reduceLeDiff, Int.reduceLT, Int.reduceLE, Int.reduceNeg, Int.reducePow, Int.reduceToNat, Int.reduceMul, Int.reduceAdd, Int.reduceSub, List.flatten_cons, List.flatten_nil, List.append_nil, line_nil, line_n, decide_true, decide_false, q, q1, q2, q3, q4, r1, r2, r3, at_0, at_1, at_2, at_3, at_4, at_5, at_6, n7, e21, e12, e57, e75, Bool.or_false, Bool.or_true, Bool.true_or, Bool.false_or, Bool.true_and, Bool.false_and]
                      · simp only [runs_nil, runs_cons, run_asg, run_asgT, run_par, run_aug, run_app, run_seti, run_expr, run_iff, run_whl, run_fr, run_ret, run_retN, run_pass, run_brk, run_cont, ev_var, ev_cst, ev_tup, ev_lst, ev_bin, ev_neg, ev_cmp, ev_cmp2, ev_and, ev_or, ev_not, ev_ife, ev_ix, ev_sl, ev_call, ev_bi, ev_isi, ev_mt1, ev_lc, ev_ali, ev_mkT, ev_callT, run_tape, run_mpar, evM_nil, evM_cons, thaw_d, thaw_fr, thaw_pl, asgs, run_gset, run_gpop, glL, putG, setG, fin_next, fin_ret, fin_exc, fin_any, seq_any, evs_nil, evs_cons, evL_nil, evL_cons, evG_nil, evG_cons, evT_yes, evT_not, evT_and, evT_or, evT_ife, evT_val, evO_no, evO_so, evI_ex, evI_rng1, evI_rng2, evI_zip, evI_enm, evI_rng3, zip_tup, zip_lst, tru_bl, tru_int, R.bind_ok, FR.of_ok, seq_next, seq_ret, seq_brk, seq_cont, seq_exc, seq_ite, of_some, of_none, get_d, get_fr, get_pl, cont_dat, cont_own, cont_bor, cont_lck, frz_d, frz_fr, asg_d, asg_fr, argF, argT, gets_nil, gets_cons, ags_nil, ags_cons, ag_d, lents_d, lents_pl, lents_nil, backs_nil, backs_d, backs_pl, backW, lock_d, lock_fr, lock_pl, setW, tgD, tgsD, normW, finA, List.getElem?_cons_zero, List.getElem?_cons_succ, List.set_cons_zero, List.set_cons_succ, Option.bind_some, Option.bind_none, Option.map_some, Option.map_none, List.map_cons, List.map_nil, List.replicate, List.cons_append, List.nil_append, Bool.and_true, Bool.and_self, if_true, if_false, Bool.false_eq_true, reduceCtorEq, List.length_cons, List.length_nil, Nat.reduceAdd, Nat.reduceSub, List.all_cons, List.all_nil, List.getD_cons_zero, List.getD_cons_succ, plainVs, backV, wipeW, biD, len_lst, len_tup, len_scr, tupleD, listD, allD, intD, absD, isiD, isiO_non, isiO_bl, isiO_int, isiO_str, isiO_tup, isiO_lst, isiO_scr, len_gl, x_gl, isN, b_add, b_sub, b_mulr, b_mull, b_fdiv, b_mod, b_pow, b_shl, b_shr, b_band, b_bor, b_bxor, b_addt, b_addl, b_repl, c_eqi, c_eqs, c_eqb, c_nei, c_nes, c_lt, c_le, c_gt, c_ge, c_is, c_isn, c_isb, c_isnb, isB, c_in, x_lst, x_tup, x_scr, it_lst, it_tup, it_scr, Bool.not_true, Bool.not_false, id_eq, blsOf, intsOf, strsOf, and_self, true_and, and_true, Nat.reduceMul, Nat.reducePow, Nat.reduceLeDiff, Int.reduceLT, Int.reduceLE, Int.reduceNeg, Int.reducePow, Int.reduceToNat, Int.reduceMul, Int.reduceAdd, Int.reduceSub, List.flatten_cons, List.flatten_nil, List.append_nil, line_nil, line_n, decide_true, decide_false, q, q1, q2, q3, q4, r1, r2, at_0, at_1, at_2, at_3, at_4, at_5, at_6, n7, e21, e12, e57, e75, Bool.or_false, Bool.or_true, Bool.true_or, Bool.false_or, Bool.true_and, Bool.false_and]
                    · simp only [runs_nil, runs_cons, run_asg, run_asgT, run_par, run_aug, run_app, run_seti, run_expr, run_iff, run_whl, run_fr, run_ret, run_retN, run_pass, run_brk, run_cont, ev_var, ev_cst, ev_tup, ev_lst, ev_bin, ev_neg, ev_cmp, ev_cmp2, ev_and, ev_or, ev_not, ev_ife, ev_ix, ev_sl, ev_call, ev_bi, ev_isi, ev_mt1, ev_lc, ev_ali, ev_mkT, ev_callT, run_tape, run_mpar, evM_nil, evM_cons, thaw_d, thaw_fr, thaw_pl, asgs, run_gset, run_gpop, glL, putG, setG, fin_next, fin_ret, fin_exc, fin_any, seq_any, evs_nil, evs_cons, evL_nil, evL_cons, evG_nil, evG_cons, evT_yes, evT_not, evT_and, evT_or, evT_ife, evT_val, evO_no, evO_so, evI_ex, evI_rng1, evI_rng2, evI_zip, evI_enm, evI_rng3, zip_tup, zip_lst, tru_bl, tru_int, R.bind_ok, FR.of_ok, seq_next, seq_ret, seq_brk, seq_cont, seq_exc, seq_ite, of_some, of_none, get_d, get_fr, get_pl, cont_dat, cont_own, cont_bor, cont_lck, frz_d, frz_fr, asg_d, asg_fr, argF, argT, gets_nil, gets_cons, ags_nil, ags_cons, ag_d, lents_d, lents_pl, lents_nil, backs_nil, backs_d, backs_pl, backW, lock_d, lock_fr, lock_pl, setW, tgD, tgsD, normW, finA, List.getElem?_cons_zero, List.getElem?_cons_succ, List.set_cons_zero, List.set_cons_succ, Option.bind_some, Option.bind_none, Option.map_some, Option.map_none, List.map_cons, List.map_nil, List.replicate, List.cons_append, List.nil_append, Bool.and_true, Bool.and_self, if_true, if_false, Bool.false_eq_true, reduceCtorEq, List.length_cons, List.length_nil, Nat.reduceAdd, Nat.reduceSub, List.all_cons, List.all_nil, List.getD_cons_zero, List.getD_cons_succ, plainVs, backV, wipeW, biD, len_lst, len_tup, len_scr, tupleD, listD, allD, intD, absD, isiD, isiO_non, isiO_bl, isiO_int, isiO_str, isiO_tup, isiO_lst, isiO_scr, len_gl, x_gl, isN, b_add, b_sub, b_mulr, b_mull, b_fdiv, b_mod, b_pow, b_shl, b_shr, b_band, b_bor, b_bxor, b_addt, b_addl, b_repl, c_eqi, c_eqs, c_eqb, c_nei, c_nes, c_lt, c_le, c_gt, c_ge, c_is, c_isn, c_isb, c_isnb, isB, c_in, x_lst, x_tup, x_scr, it_lst, it_tup, it_scr, Bool.not_true, Bool.not_false, id_eq, blsOf, intsOf, strsOf, and_self, true_and, and_true, Nat.reduceMul, Nat.reducePow, Nat.reduceLeDiff, Int.reduceLT, Int.reduceLE, Int.reduceNeg, Int.reducePow, Int.reduceToNat, Int.reduceMul, Int.reduceAdd, Int.reduceSub, List.flatten_cons, List.flatten_nil, List.append_nil, line_nil, line_n, decide_true, decide_false, q, q1, q2, q3, q4, r1, at_0, at_1, at_2, at_3, at_4, at_5, at_6, n7, e21, e12, e57, e75, Bool.or_false, Bool.or_true, Bool.true_or, Bool.false_or, Bool.true_and, Bool.false_and]
                  · simp only [runs_nil, runs_cons, run_asg, run_asgT, run_par, run_aug, run_app, run_seti, run_expr, run_iff, run_whl, run_fr, run_ret, run_retN, run_pass, run_brk, run_cont, ev_var, ev_cst, ev_tup, ev_lst, ev_bin, ev_neg, ev_cmp, ev_cmp2, ev_and, ev_or, ev_not, ev_ife, ev_ix, ev_sl, ev_call, ev_bi, ev_isi, ev_mt1, ev_lc, ev_ali, ev_mkT, ev_callT, run_tape, run_mpar, evM_nil, evM_cons, thaw_d, thaw_fr, thaw_pl, asgs, run_gset, run_gpop, glL, putG, setG, fin_next, fin_ret, fin_exc, fin_any, seq_any, evs_nil, evs_cons, evL_nil, evL_cons, evG_nil, evG_cons, evT_yes, evT_not, evT_and, evT_or, evT_ife, evT_val, evO_no, evO_so, evI_ex, evI_rng1, evI_rng2, evI_zip, evI_enm, evI_rng3, zip_tup, zip_lst, tru_bl, tru_int, R.bind_ok, FR.of_ok, seq_next, seq_ret, seq_brk, seq_cont, seq_exc, seq_ite, of_some, of_none, get_d, get_fr, get_pl, cont_dat, cont_own, cont_bor, cont_lck, frz_d, frz_fr, asg_d, asg_fr, argF, argT, gets_nil, gets_cons, ags_nil, ags_cons, ag_d, lents_d, lents_pl, lents_nil, backs_nil, backs_d, backs_pl, backW, lock_d, lock_fr, lock_pl, setW, tgD, tgsD, normW, finA, List.getElem?_cons_zero, List.getElem?_cons_succ, List.set_cons_zero, List.set_cons_succ, Option.bind_some, Option.bind_none, Option.map_some, Option.map_none, List.map_cons, List.map_nil, List.replicate, List.cons_append, List.nil_append, Bool.and_true, Bool.and_self, if_true, if_false, Bool.false_eq_true, reduceCtorEq, List.length_cons, List.length_nil, Nat.reduceAdd, Nat.reduceSub, List.all_cons, List.all_nil, List.getD_cons_zero, List.getD_cons_succ, plainVs, backV, wipeW, biD, len_lst, len_tup, len_scr, tupleD, listD, allD, intD, absD, isiD, isiO_non, isiO_bl, isiO_int, isiO_str, isiO_tup, isiO_lst, isiO_scr, len_gl, x_gl, isN, b_add, b_sub, b_mulr, b_mull, b_fdiv, b_mod, b_pow, b_shl, b_shr, b_band, b_bor, b_bxor, b_addt, b_addl, b_repl, c_eqi, c_eqs, c_eqb, c_nei, c_nes, c_lt, c_le, c_gt, c_ge, c_is, c_isn, c_isb, c_isnb, isB, c_in, x_lst, x_tup, x_scr, it_lst, it_tup, it_scr, Bool.not_true, Bool.not_false, id_eq, blsOf, intsOf, strsOf, and_self, true_and, and_true, Nat.reduceMul, Nat.reducePow, Nat.reduceLeDiff, Int.reduceLT, Int.reduceLE, Int.reduceNeg, Int.reducePow, Int.reduceToNat, Int.reduceMul, Int.reduceAdd, Int.reduceSub, List.flatten_cons, List.flatten_nil, List.append_nil, line_nil, line_n, decide_true, decide_false, q, q1, q2, q3, q4, q5, q6, at_0, at_1, at_2, at_3, at_4, n7, e21, e12, e57, e75, Bool.or_false, Bool.or_true, Bool.true_or, Bool.false_or, Bool.true_and]
              · simp only [runs_nil, runs_cons, run_asg, run_asgT, run_par, run_aug, run_app, run_seti, run_expr, run_iff, run_whl, run_fr, run_ret, run_retN, run_pass, run_brk, run_cont, ev_var, ev_cst, ev_tup, ev_lst, ev_bin, ev_neg, ev_cmp, ev_cmp2, ev_and, ev_or, ev_not, ev_ife, ev_ix, ev_sl, ev_call, ev_bi, ev_isi, ev_mt1, ev_lc, ev_ali, ev_mkT, ev_callT, run_tape, run_mpar, evM_nil, evM_cons, thaw_d, thaw_fr, thaw_pl, asgs, run_gset, run_gpop, glL, putG, setG, fin_next, fin_ret, fin_exc, fin_any, seq_any, evs_nil, evs_cons, evL_nil, evL_cons, evG_nil, evG_cons, evT_yes, evT_not, evT_and, evT_or, evT_ife, evT_val, evO_no, evO_so, evI_ex, evI_rng1, evI_rng2, evI_zip, evI_enm, evI_rng3, zip_tup, zip_lst, tru_bl, tru_int, R.bind_ok, FR.of_ok, seq_next, seq_ret, seq_brk, seq_cont, seq_exc, seq_ite, of_some, of_none, get_d, get_fr, get_pl, cont_dat, cont_own, cont_bor, cont_lck, frz_d, frz_fr, asg_d, asg_fr, argF, argT, gets_nil, gets_cons, ags_nil, ags_cons, ag_d, lents_d, lents_pl, lents_nil, backs_nil, backs_d, backs_pl, backW, lock_d, lock_fr, lock_pl, setW, tgD, tgsD, normW, finA, List.getElem?_cons_zero, List.getElem?_cons_succ, List.set_cons_zero, List.set_cons_succ, Option.bind_some, Option.bind_none, Option.map_some, Option.map_none, List.map_cons, List.map_nil, List.replicate, List.cons_append, List.nil_append, Bool.and_true, Bool.and_self, if_true, if_false, Bool.false_eq_true, reduceCtorEq, List.length_cons, List.length_nil, Nat.reduceAdd, Nat.reduceSub, List.all_cons, List.all_nil, List.getD_cons_zero, List.getD_cons_succ, plainVs, backV, wipeW, biD, len_lst, len_tup, len_scr, tupleD, listD, allD, intD, absD, isiD, isiO_non, isiO_bl, isiO_int, isiO_str, isiO_tup, isiO_lst, isiO_scr, len_gl, x_gl, isN, b_add, b_sub, b_mulr, b_mull, b_fdiv, b_mod, b_pow, b_shl, b_shr, b_band, b_bor, b_bxor, b_addt, b_addl, b_repl, c_eqi, c_eqs, c_eqb, c_nei, c_nes, c_lt, c_le, c_gt, c_ge, c_is, c_isn, c_isb, c_isnb, isB, c_in, x_lst, x_tup, x_scr, it_lst, it_tup, it_scr, Bool.not_true, Bool.not_false, id_eq, blsOf, intsOf, strsOf, and_self, true_and, and_true, Nat.reduceMul, Nat.reducePow, Nat.reduceLeDiff, Int.reduceLT, Int.reduceLE, Int.reduceNeg, Int.reducePow, Int.reduceToNat, Int.reduceMul, Int.reduceAdd, Int.reduceSub, List.flatten_cons, List.flatten_nil, List.append_nil, line_nil, line_n, decide_true, decide_false, q, q1, q2, q3, q4, at_0, at_1, at_2, at_3, at_4, n7, e21, e12, e57, e75, Bool.or_false, Bool.or_true, Bool.true_or, Bool.false_or, Bool.true_and]
            · simp only [runs_nil, runs_cons, run_asg, run_asgT, run_par, run_aug, run_app, run_seti, run_expr, run_iff, run_whl, run_fr, run_ret, run_retN, run_pass, run_brk, run_cont, ev_var, ev_cst, ev_tup, ev_lst, ev_bin, ev_neg, ev_cmp, ev_cmp2, ev_and, ev_or, ev_not, ev_ife, ev_ix, ev_sl, ev_call, ev_bi, ev_isi, ev_mt1, ev_lc, ev_ali, ev_mkT, ev_callT, run_tape, run_mpar, evM_nil, evM_cons, thaw_d, thaw_fr, thaw_pl, asgs, run_gset, run_gpop, glL, putG, setG, fin_next, fin_ret, fin_exc, fin_any, seq_any, evs_nil, evs_cons, evL_nil, evL_cons, evG_nil, evG_cons, evT_yes, evT_not, evT_and, evT_or, evT_ife, evT_val, evO_no, evO_so, evI_ex, evI_rng1, evI_rng2, evI_zip, evI_enm, evI_rng3, zip_tup, zip_lst, tru_bl, tru_int, R.bind_ok, FR.of_ok, seq_next, seq_ret, seq_brk, seq_cont, seq_exc, seq_ite, of_some, of_none, get_d, get_fr, get_pl, cont_dat, cont_own, cont_bor, cont_lck, frz_d, frz_fr, asg_d, asg_fr, argF, argT, gets_nil, gets_cons, ags_nil, ags_cons, ag_d, lents_d, lents_pl, lents_nil, backs_nil, backs_d, backs_pl, backW, lock_d, lock_fr, lock_pl, setW, tgD, tgsD, normW, finA, List.getElem?_cons_zero, List.getElem?_cons_succ, List.set_cons_zero, List.set_cons_succ, Option.bind_some, Option.bind_none, Option.map_some, Option.map_none, List.map_cons, List.map_nil, List.replicate, List.cons_append, List.nil_append, Bool.and_true, Bool.and_self, if_true, if_false, Bool.false_eq_true, reduceCtorEq, List.length_cons, List.length_nil, Nat.reduceAdd, Nat.reduceSub, List.all_cons, List.all_nil, List.getD_cons_zero, List.getD_cons_succ, plainVs, backV, wipeW, biD, len_lst, len_tup, len_scr, tupleD, listD, allD, intD, absD, isiD, isiO_non, isiO_bl, isiO_int, isiO_str, isiO_tup, isiO_lst, isiO_scr, len_gl, x_gl, isN, b_add, b_sub, b_mulr, b_mull, b_fdiv, b_mod, b_pow, b_shl, b_shr, b_band, b_bor, b_bxor, b_addt, b_addl, b_repl, c_eqi, c_eqs, c_eqb, c_nei, c_nes, c_lt, c_le, c_gt, c_ge, c_is, c_isn, c_isb, c_isnb, isB, c_in, x_lst, x_tup, x_scr, it_lst, it_tup, it_scr, Bool.not_true, Bool.not_false, id_eq, blsOf, intsOf, strsOf, and_self, true_and, and_true, Nat.reduceMul, Nat.reducePow, Nat.reduceLeDiff, Int.reduceLT, Int.reduceLE, Int.reduceNeg, Int.reducePow, Int.reduceToNat, Int.reduceMul, Int.reduceAdd, Int.reduceSub, List.flatten_cons, List.flatten_nil, List.append_nil, line_nil, line_n, decide_true, decide_false, q, q1, q2, q3, at_0, at_1, at_2, at_3, at_4, n7, e21, e12, e57, e75, Bool.or_false, Bool.or_true, Bool.true_or, Bool.false_or, Bool.true_and, Bool.false_and]
          · simp only [runs_nil, runs_cons, run_asg, run_asgT, run_par, run_aug, run_app, run_seti, run_expr, run_iff, run_whl, run_fr, run_ret, run_retN, run_pass, run_brk, run_cont, ev_var, ev_cst, ev_tup, ev_lst, ev_bin, ev_neg, ev_cmp, ev_cmp2, ev_and, ev_or, ev_not, ev_ife, ev_ix, ev_sl, ev_call, ev_bi, ev_isi, ev_mt1, ev_lc, ev_ali, ev_mkT, ev_callT, run_tape, run_mpar, evM_nil, evM_cons, thaw_d, thaw_fr, thaw_pl, asgs, run_gset, run_gpop, glL, putG, setG, fin_next, fin_ret, fin_exc, fin_any, seq_any, evs_nil, evs_cons, evL_nil, evL_cons, evG_nil, evG_cons, evT_yes, evT_not, evT_and, evT_or, evT_ife, evT_val, evO_no, evO_so, evI_ex, evI_rng1, evI_rng2, evI_zip, evI_enm, evI_rng3, zip_tup, zip_lst, tru_bl, tru_int, R.bind_ok, FR.of_ok, seq_next, seq_ret, seq_brk, seq_cont, seq_exc, seq_ite, of_some, of_none, get_d, get_fr, get_pl, cont_dat, cont_own, cont_bor, cont_lck, frz_d, frz_fr, asg_d, asg_fr, argF, argT, gets_nil, gets_cons, ags_nil, ags_cons, ag_d, lents_d, lents_pl, lents_nil, backs_nil, backs_d, backs_pl, backW, lock_d, lock_fr, lock_pl, setW, tgD, tgsD, normW, finA, List.getElem?_cons_zero, List.getElem?_cons_succ, List.set_cons_zero, List.set_cons_succ, Option.bind_some, Option.bind_none, Option.map_some, Option.map_none, List.map_cons, List.map_nil, List.replicate, List.cons_append, List.nil_append, Bool.and_true, Bool.and_self, if_true, if_false, Bool.false_eq_true, reduceCtorEq, List.length_cons, List.length_nil, Nat.reduceAdd, Nat.reduceSub, List.all_cons, List.all_nil, List.getD_cons_zero, List.getD_cons_succ, plainVs, backV, wipeW, biD, len_lst, len_tup, len_scr, tupleD, listD, allD, intD, absD, isiD, isiO_non, isiO_bl, isiO_int, isiO_str, isiO_tup, isiO_lst, isiO_scr, len_gl, x_gl, isN, b_add, b_sub, b_mulr, b_mull, b_fdiv, b_mod, b_pow, b_shl, b_shr, b_band, b_bor, b_bxor, b_addt, b_addl, b_repl, c_eqi, c_eqs, c_eqb, c_nei, c_nes, c_lt, c_le, c_gt, c_ge, c_is, c_isn, c_isb, c_isnb, isB, c_in, x_lst, x_tup, x_scr, it_lst, it_tup, it_scr, Bool.not_true, Bool.not_false, id_eq, blsOf, intsOf, strsOf, and_self, true_and, and_true, Nat.reduceMul, Nat.reducePow, Nat.reduceLeDiff, Int.reduceLT, Int.reduceLE, Int.reduceNeg, Int.reducePow, Int.reduceToNat, Int.reduceMul, Int.reduceAdd, Int.reduceSub, List.flatten_cons, List.flatten_nil, List.append_nil, line_nil, line_n, decide_true, decide_false, q, q1, q2, at_0, at_1, at_2, at_3, at_4, n7, e21, e12, e57, e75, Bool.or_false, Bool.or_true, Bool.true_or, Bool.false_or, Bool.true_and, Bool.false_and]
        · simp only [runs_nil, runs_cons, run_asg, run_asgT, run_par, run_aug, run_app, run_seti, run_expr, run_iff, run_whl, run_fr, run_ret, run_retN, run_pass, run_brk, run_cont, ev_var, ev_cst, ev_tup, ev_lst, ev_bin, ev_neg, ev_cmp, ev_cmp2, ev_and, ev_or, ev_not, ev_ife, ev_ix, ev_sl, ev_call, ev_bi, ev_isi, ev_mt1, ev_lc, ev_ali, ev_mkT, ev_callT, run_tape, run_mpar, evM_nil, evM_cons, thaw_d, thaw_fr, thaw_pl, asgs, run_gset, run_gpop, glL, putG, setG, fin_next, fin_ret, fin_exc, fin_any, seq_any, evs_nil, evs_cons, evL_nil, evL_cons, evG_nil, evG_cons, evT_yes, evT_not, evT_and, evT_or, evT_ife, evT_val, evO_no, evO_so, evI_ex, evI_rng1, evI_rng2, evI_zip, evI_enm, evI_rng3, zip_tup, zip_lst, tru_bl, tru_int, R.bind_ok, FR.of_ok, seq_next, seq_ret, seq_brk, seq_cont, seq_exc, seq_ite, of_some, of_none, get_d, get_fr, get_pl, cont_dat, cont_own, cont_bor, cont_lck, frz_d, frz_fr, asg_d, asg_fr, argF, argT, gets_nil, gets_cons, ags_nil, ags_cons, ag_d, lents_d, lents_pl, lents_nil, backs_nil, backs_d, backs_pl, backW, lock_d, lock_fr, lock_pl, setW, tgD, tgsD, normW, finA, List.getElem?_cons_zero, List.getElem?_cons_succ, List.set_cons_zero, List.set_cons_succ, Option.bind_some, Option.bind_none, Option.map_some, Option.map_none, List.map_cons, List.map_nil, List.replicate, List.cons_append, List.nil_append, Bool.and_true, Bool.and_self, if_true, if_false, Bool.false_eq_true, reduceCtorEq, List.length_cons, List.length_nil, Nat.reduceAdd, Nat.reduceSub, List.all_cons, List.all_nil, List.getD_cons_zero, List.getD_cons_succ, plainVs, backV, wipeW, biD, len_lst, len_tup, len_scr, tupleD, listD, allD, intD, absD, isiD, isiO_non, isiO_bl, isiO_int, isiO_str, isiO_tup, isiO_lst, isiO_scr, len_gl, x_gl, isN, b_add, b_sub, b_mulr, b_mull, b_fdiv, b_mod, b_pow, b_shl, b_shr, b_band, b_bor, b_bxor, b_addt, b_addl, b_repl, c_eqi, c_eqs, c_eqb, c_nei, c_nes, c_lt, c_le, c_gt, c_ge, c_is, c_isn, c_isb, c_isnb, isB, c_in, x_lst, x_tup, x_scr, it_lst, it_tup, it_scr, Bool.not_true, Bool.not_false, id_eq, blsOf, intsOf, strsOf, and_self, true_and, and_true, Nat.reduceMul, Nat.reducePow, Nat.reduceLeDiff, Int.reduceLT, Int.reduceLE, Int.reduceNeg, Int.reducePow, Int.reduceToNat, Int.reduceMul, Int.reduceAdd, Int.reduceSub, List.flatten_cons, List.flatten_nil, List.append_nil, line_nil, line_n, decide_true, decide_false, q, q1, at_0, at_1, at_2, at_3, at_4, n7, e21, e12, e57, e75, Bool.or_false, Bool.or_true, Bool.true_or, Bool.false_or, Bool.true_and, Bool.false_and]
    · have i5 : ¬ ((ds.length : Nat) : Int) = 5 := by omega
      have i7 : ¬ ((ds.length : Nat) : Int) = 7 := by omega
      have hw : wordP ds = .non := by
        unfold wordP
        cases q : ds.all (isLess 256) with
        | false => rfl
        | true =>
          obtain ⟨is, rfl, _⟩ := ints_of q
          rw [if_pos rfl, wordD_no (by simpa using h5) (by simpa using h7)]
      simp only [runs_nil, runs_cons, run_asg, run_asgT, run_par, run_aug, run_app, run_seti, run_expr, run_iff, run_whl, run_fr, run_ret, run_retN, run_pass, run_brk, run_cont, ev_var, ev_cst, ev_tup, ev_lst, ev_bin, ev_neg, ev_cmp, ev_cmp2, ev_and, ev_or, ev_not, ev_ife, ev_ix, ev_sl, ev_call, ev_bi, ev_isi, ev_mt1, ev_lc, ev_ali, ev_mkT, ev_callT, run_tape, run_mpar, evM_nil, evM_cons, thaw_d, thaw_fr, thaw_pl, asgs, run_gset, run_gpop, glL, putG, setG, fin_next, fin_ret, fin_exc, fin_any, seq_any, evs_nil, evs_cons, evL_nil, evL_cons, evG_nil, evG_cons, evT_yes, evT_not, evT_and, evT_or, evT_ife, evT_val, evO_no, evO_so, evI_ex, evI_rng1, evI_rng2, evI_zip, evI_enm, evI_rng3, zip_tup, zip_lst, tru_bl, tru_int, R.bind_ok, FR.of_ok, seq_next, seq_ret, seq_brk, seq_cont, seq_exc, seq_ite, of_some, of_none, get_d, get_fr, get_pl, cont_dat, cont_own, cont_bor, cont_lck, frz_d, frz_fr, asg_d, asg_fr, argF, argT, gets_nil, gets_cons, ags_nil, ags_cons, ag_d, lents_d, lents_pl, lents_nil, backs_nil, backs_d, backs_pl, backW, lock_d, lock_fr, lock_pl, setW, tgD, tgsD, normW, finA, List.getElem?_cons_zero, List.getElem?_cons_succ, List.set_cons_zero, List.set_cons_succ, Option.bind_some, Option.bind_none, Option.map_some, Option.map_none, List.map_cons, List.map_nil, List.replicate, List.cons_append, List.nil_append, Bool.and_true, Bool.and_self, if_true, if_false, Bool.false_eq_true, reduceCtorEq, List.length_cons, List.length_nil, Nat.reduceAdd, Nat.reduceSub, List.all_cons, List.all_nil, List.getD_cons_zero, List.getD_cons_succ, plainVs, backV, wipeW, biD, len_lst, len_tup, len_scr, tupleD, listD, allD, intD, absD, isiD, isiO_non, isiO_bl, isiO_int, isiO_str, isiO_tup, isiO_lst, isiO_scr, len_gl, x_gl, isN, b_add, b_sub, b_mulr, b_mull, b_fdiv, b_mod, b_pow, b_shl, b_shr, b_band, b_bor, b_bxor, b_addt, b_addl, b_repl, c_eqi, c_eqs, c_eqb, c_nei, c_nes, c_lt, c_le, c_gt, c_ge, c_is, c_isn, c_isb, c_isnb, isB, c_in, x_lst, x_tup, x_scr, it_lst, it_tup, it_scr, Bool.not_true, Bool.not_false, id_eq, blsOf, intsOf, strsOf, and_self, true_and, and_true, Nat.reduceMul, Nat.reducePow, Nat.reduceLeDiff, Int.reduceLT, Int.reduceLE, Int.reduceNeg, Int.reducePow, Int.reduceToNat, Int.reduceMul, Int.reduceAdd, Int.reduceSub, List.flatten_cons, List.flatten_nil, List.append_nil, line_nil, line_n, decide_true, decide_false, c_nin, in57l, i5, i7, hw, Bool.or_false, Bool.or_true, Bool.true_or, Bool.false_or]

theorem c_neb (a b : Bool) : cmpD .NotEq (.bl a) (.bl b) = some (!decide (a = b)) := by unfold cmpD; rw [eqD_bl]; rfl
theorem lcGo_gen {elt : Pv.Env → Pv.R A} {tg : Tg} {φ : Phi} {vs : List Nat} {ρ : Pv.Env} (F : D → Pv.Env) (f : D → D) : ∀ {xs acc : List D}, (∀ x ∈ xs, tgD tg x ρ = some (F x) ∧ elt (F x) = .ok (.d (f x)) (F x) ∧ wipeW (F x) vs = ρ) → acc.length + xs.length ≤ Line → lcGo elt tg (evT φ .yes) vs xs ρ acc = .ok (acc ++ xs.map f) ρ
  | [], acc, _, _ => by unfold lcGo; simp
  | x :: xs, acc, h, hl => by
    obtain ⟨h1, h2, h3⟩ := h x (List.mem_cons_self ..)
    have hl' : acc.length + (xs.length + 1) ≤ Line := by simpa using hl
    unfold lcGo
    rw [h1]
    dsimp only
    rw [evT_yes]
    simp only [R.bind_ok, if_true]
    rw [h2]
    simp only [R.bind_ok, A.frz]
    rw [if_pos (by omega : acc.length < Line), h3, List.map_cons]
    rw [lcGo_gen F f (fun y hy => h y (List.mem_cons_of_mem _ hy)) (by rw [List.length_append, List.length_singleton]; omega)]
    simp
/-- leaves and tuples of such -/
def PT : Nat → D → Prop
  | 0, d => Leaf d
  | n + 1, d => Leaf d ∨ ∃ ds, d = .tup ds ∧ ds.length ≤ 1000 ∧ ∀ x ∈ ds, PT n x
theorem pt_leaf {n : Nat} {d : D} (h : Leaf d) : PT n d := by
  cases n with
  | zero => exact h
  | succ n => exact .inl h
theorem pt_tup {n : Nat} {ds : List D} (hl : ds.length ≤ 1000) (h : ∀ x ∈ ds, PT n x) : PT (n + 1) (.tup ds) := .inr ⟨ds, rfl, hl, h⟩
theorem pt_int {n : Nat} (i : Int) : PT n (.int i) := pt_leaf (.inr (.inr (.inl ⟨i, rfl⟩)))
theorem pt_str {n : Nat} (i : Str) : PT n (.str i) := pt_leaf (.inr (.inr (.inr ⟨i, rfl⟩)))
theorem pt_non {n : Nat} : PT n .non := pt_leaf (.inl rfl)
theorem pt_bl {n : Nat} (b : Bool) : PT n (.bl b) := pt_leaf (.inr (.inl ⟨b, rfl⟩))
theorem same_leaf (k : Nat) {d : D} (h : Leaf d) : callK (prg rows) (k + 1) 16 [.dat d, .dat d] = .ok (.d (.bl true)) [.dat d, .dat d] := by
  rw [callK_run p16]
  unfold runF c__law_same
  rw [if_pos ⟨rfl, rfl⟩]
  rcases h with rfl | ⟨b, rfl⟩ | ⟨i, rfl⟩ | ⟨s, rfl⟩ <;> simp only [runs_nil, runs_cons, run_asg, run_asgT, run_par, run_aug, run_app, run_seti, run_expr, run_iff, run_whl, run_fr, run_ret, run_retN, run_pass, run_brk, run_cont, ev_var, ev_cst, ev_tup, ev_lst, ev_bin, ev_neg, ev_cmp, ev_cmp2, ev_and, ev_or, ev_not, ev_ife, ev_ix, ev_sl, ev_call, ev_bi, ev_isi, ev_mt1, ev_lc, ev_ali, ev_mkT, ev_callT, run_tape, run_mpar, evM_nil, evM_cons, thaw_d, thaw_fr, thaw_pl, asgs, run_gset, run_gpop, glL, putG, setG, fin_next, fin_ret, fin_exc, fin_any, seq_any, evs_nil, evs_cons, evL_nil, evL_cons, evG_nil, evG_cons, evT_yes, evT_not, evT_and, evT_or, evT_ife, evT_val, evO_no, evO_so, evI_ex, evI_rng1, evI_rng2, evI_zip, evI_enm, evI_rng3, zip_tup, zip_lst, tru_bl, tru_int, R.bind_ok, FR.of_ok, seq_next, seq_ret, seq_brk, seq_cont, seq_exc, seq_ite, of_some, of_none, get_d, get_fr, get_pl, cont_dat, cont_own, cont_bor, cont_lck, frz_d, frz_fr, asg_d, asg_fr, argF, argT, gets_nil, gets_cons, ags_nil, ags_cons, ag_d, lents_d, lents_pl, lents_nil, backs_nil, backs_d, backs_pl, backW, lock_d, lock_fr, lock_pl, setW, tgD, tgsD, normW, finA, List.getElem?_cons_zero, List.getElem?_cons_succ, List.set_cons_zero, List.set_cons_succ, Option.bind_some, Option.bind_none, Option.map_some, Option.map_none, List.map_cons, List.map_nil, List.replicate, List.cons_append, List.nil_append, Bool.and_true, Bool.and_self, if_true, if_false, Bool.false_eq_true, reduceCtorEq, List.length_cons, List.length_nil, Nat.reduceAdd, Nat.reduceSub, List.all_cons, List.all_nil, List.getD_cons_zero, List.getD_cons_succ, plainVs, backV, wipeW, biD, len_lst, len_tup, len_scr, tupleD, listD, allD, intD, absD, isiD, isiO_non, isiO_bl, isiO_int, isiO_str, isiO_tup, isiO_lst, isiO_scr, len_gl, x_gl, isN, b_add, b_sub, b_mulr, b_mull, b_fdiv, b_mod, b_pow, b_shl, b_shr, b_band, b_bor, b_bxor, b_addt, b_addl, b_repl, c_eqi, c_eqs, c_eqb, c_nei, c_nes, c_lt, c_le, c_gt, c_ge, c_is, c_isn, c_isb, c_isnb, isB, c_in, x_lst, x_tup, x_scr, it_lst, it_tup, it_scr, Bool.not_true, Bool.not_false, id_eq, blsOf, intsOf, strsOf, and_self, true_and, and_true, Nat.reduceMul, Nat.reducePow, Nat.reduceLeDiff, Int.reduceLT, Int.reduceLE, Int.reduceNeg, Int.reducePow, Int.reduceToNat, Int.reduceMul, Int.reduceAdd, Int.reduceSub, List.flatten_cons, List.flatten_nil, List.append_nil, line_nil, line_n, decide_true, decide_false, c_neb]
theorem same (n : Nat) : ∀ (k : Nat) {d : D}, PT n d → callK (prg rows) (k + n + 1) 16 [.dat d, .dat d] = .ok (.d (.bl true)) [.dat d, .dat d] := by
  induction n with
  | zero => exact fun k d h => same_leaf k h
  | succ n ih =>
    intro k d h
    rcases h with h | ⟨ds, rfl, hl, hs⟩
    · exact same_leaf (k + (n + 1)) h
    · have zz : List.zipWith (fun a b => D.tup [a, b]) ds ds = ds.map fun a => .tup [a, a] := by
        rw [List.zipWith_self]
      rw [show k + (n + 1) + 1 = (k + n + 1) + 1 from by omega, callK_run p16]
      unfold runF c__law_same
      rw [if_pos ⟨rfl, rfl⟩]
      simp only [runs_nil, runs_cons, run_asg, run_asgT, run_par, run_aug, run_app, run_seti, run_expr, run_iff, run_whl, run_fr, run_ret, run_retN, run_pass, run_brk, run_cont, ev_var, ev_cst, ev_tup, ev_lst, ev_bin, ev_neg, ev_cmp, ev_cmp2, ev_and, ev_or, ev_not, ev_ife, ev_ix, ev_sl, ev_call, ev_bi, ev_isi, ev_mt1, ev_lc, ev_ali, ev_mkT, ev_callT, run_tape, run_mpar, evM_nil, evM_cons, thaw_d, thaw_fr, thaw_pl, asgs, run_gset, run_gpop, glL, putG, setG, fin_next, fin_ret, fin_exc, fin_any, seq_any, evs_nil, evs_cons, evL_nil, evL_cons, evG_nil, evG_cons, evT_yes, evT_not, evT_and, evT_or, evT_ife, evT_val, evO_no, evO_so, evI_ex, evI_rng1, evI_rng2, evI_zip, evI_enm, evI_rng3, zip_tup, zip_lst, tru_bl, tru_int, R.bind_ok, FR.of_ok, seq_next, seq_ret, seq_brk, seq_cont, seq_exc, seq_ite, of_some, of_none, get_d, get_fr, get_pl, cont_dat, cont_own, cont_bor, cont_lck, frz_d, frz_fr, asg_d, asg_fr, argF, argT, gets_nil, gets_cons, ags_nil, ags_cons, ag_d, lents_d, lents_pl, lents_nil, backs_nil, backs_d, backs_pl, backW, lock_d, lock_fr, lock_pl, setW, tgD, tgsD, normW, finA, List.getElem?_cons_zero, List.getElem?_cons_succ, List.set_cons_zero, List.set_cons_succ, Option.bind_some, Option.bind_none, Option.map_some, Option.map_none, List.map_cons, List.map_nil, List.replicate, List.cons_append, List.nil_append, Bool.and_true, Bool.and_self, if_true, if_false, Bool.false_eq_true, reduceCtorEq, List.length_cons, List.length_nil, Nat.reduceAdd, Nat.reduceSub, List.all_cons, List.all_nil, List.getD_cons_zero, List.getD_cons_succ, plainVs, backV, wipeW, biD, len_lst, len_tup, len_scr, tupleD, listD, allD, intD, absD, isiD, isiO_non, isiO_bl, isiO_int, isiO_str, isiO_tup, isiO_lst, isiO_scr, len_gl, x_gl, isN, b_add, b_sub, b_mulr, b_mull, b_fdiv, b_mod, b_pow, b_shl, b_shr, b_band, b_bor, b_bxor, b_addt, b_addl, b_repl, c_eqi, c_eqs, c_eqb, c_nei, c_nes, c_lt, c_le, c_gt, c_ge, c_is, c_isn, c_isb, c_isnb, isB, c_in, x_lst, x_tup, x_scr, it_lst, it_tup, it_scr, Bool.not_true, Bool.not_false, id_eq, blsOf, intsOf, strsOf, and_self, true_and, and_true, Nat.reduceMul, Nat.reducePow, Nat.reduceLeDiff, Int.reduceLT, Int.reduceLE, Int.reduceNeg, Int.reducePow, Int.reduceToNat, Int.reduceMul, Int.reduceAdd, Int.reduceSub, List.flatten_cons, List.flatten_nil, List.append_nil, line_nil, line_n, decide_true, decide_false, zz]
      rw [lcRun_ok rfl (lcGo_gen (ρ := [.dat (.tup ds), .dat (.tup ds), .un, .un]) (fun x => match x with
        | .tup [a, b] => [.dat (.tup ds), .dat (.tup ds), .dat a, .dat b]
        | _ => []) (fun _ => .bl true) (fun x hx => by
          obtain ⟨a, ha, rfl⟩ := List.mem_map.mp hx
          refine ⟨rfl, ?_, rfl⟩
          simp only [runs_nil, runs_cons, run_asg, run_asgT, run_par, run_aug, run_app, run_seti, run_expr, run_iff, run_whl, run_fr, run_ret, run_retN, run_pass, run_brk, run_cont, ev_var, ev_cst, ev_tup, ev_lst, ev_bin, ev_neg, ev_cmp, ev_cmp2, ev_and, ev_or, ev_not, ev_ife, ev_ix, ev_sl, ev_call, ev_bi, ev_isi, ev_mt1, ev_lc, ev_ali, ev_mkT, ev_callT, run_tape, run_mpar, evM_nil, evM_cons, thaw_d, thaw_fr, thaw_pl, asgs, run_gset, run_gpop, glL, putG, setG, fin_next, fin_ret, fin_exc, fin_any, seq_any, evs_nil, evs_cons, evL_nil, evL_cons, evG_nil, evG_cons, evT_yes, evT_not, evT_and, evT_or, evT_ife, evT_val, evO_no, evO_so, evI_ex, evI_rng1, evI_rng2, evI_zip, evI_enm, evI_rng3, zip_tup, zip_lst, tru_bl, tru_int, R.bind_ok, FR.of_ok, seq_next, seq_ret, seq_brk, seq_cont, seq_exc, seq_ite, of_some, of_none, get_d, get_fr, get_pl, cont_dat, cont_own, cont_bor, cont_lck, frz_d, frz_fr, asg_d, asg_fr, argF, argT, gets_nil, gets_cons, ags_nil, ags_cons, ag_d, lents_d, lents_pl, lents_nil, backs_nil, backs_d, backs_pl, backW, lock_d, lock_fr, lock_pl, setW, tgD, tgsD, normW, finA, List.getElem?_cons_zero, List.getElem?_cons_succ, List.set_cons_zero, List.set_cons_succ, Option.bind_some, Option.bind_none, Option.map_some, Option.map_none, List.map_cons, List.map_nil, List.replicate, List.cons_append, List.nil_append, Bool.and_true, Bool.and_self, if_true, if_false, Bool.false_eq_true, reduceCtorEq, List.length_cons, List.length_nil, Nat.reduceAdd, Nat.reduceSub, List.all_cons, List.all_nil, List.getD_cons_zero, List.getD_cons_succ, plainVs, backV, wipeW, biD, len_lst, len_tup, len_scr, tupleD, listD, allD, intD, absD, isiD, isiO_non, isiO_bl, isiO_int, isiO_str, isiO_tup, isiO_lst, isiO_scr, len_gl, x_gl, isN, b_add, b_sub, b_mulr, b_mull, b_fdiv, b_mod, b_pow, b_shl, b_shr, b_band, b_bor, b_bxor, b_addt, b_addl, b_repl, c_eqi, c_eqs, c_eqb, c_nei, c_nes, c_lt, c_le, c_gt, c_ge, c_is, c_isn, c_isb, c_isnb, isB, c_in, x_lst, x_tup, x_scr, it_lst, it_tup, it_scr, Bool.not_true, Bool.not_false, id_eq, blsOf, intsOf, strsOf, and_self, true_and, and_true, Nat.reduceMul, Nat.reducePow, Nat.reduceLeDiff, Int.reduceLT, Int.reduceLE, Int.reduceNeg, Int.reducePow, Int.reduceToNat, Int.reduceMul, Int.reduceAdd, Int.reduceSub, List.flatten_cons, List.flatten_nil, List.append_nil, line_nil, line_n, decide_true, decide_false, callG_2 (ih k (hs a ha))]) (by rw [List.length_map]; exact line_k (by simpa using hl)))]
      have e : (List.map (fun a => D.tup [a, a]) ds).map (fun _ => D.bl true) = ds.map fun _ => D.bl true := by rw [List.map_map]; rfl
      have al : ((ds.map fun _ => true).all id) = true := by rw [List.all_eq_true]; intro b hb; obtain ⟨_, _, rfl⟩ := List.mem_map.mp hb; rfl
      simp only [runs_nil, runs_cons, run_asg, run_asgT, run_par, run_aug, run_app, run_seti, run_expr, run_iff, run_whl, run_fr, run_ret, run_retN, run_pass, run_brk, run_cont, ev_var, ev_cst, ev_tup, ev_lst, ev_bin, ev_neg, ev_cmp, ev_cmp2, ev_and, ev_or, ev_not, ev_ife, ev_ix, ev_sl, ev_call, ev_bi, ev_isi, ev_mt1, ev_lc, ev_ali, ev_mkT, ev_callT, run_tape, run_mpar, evM_nil, evM_cons, thaw_d, thaw_fr, thaw_pl, asgs, run_gset, run_gpop, glL, putG, setG, fin_next, fin_ret, fin_exc, fin_any, seq_any, evs_nil, evs_cons, evL_nil, evL_cons, evG_nil, evG_cons, evT_yes, evT_not, evT_and, evT_or, evT_ife, evT_val, evO_no, evO_so, evI_ex, evI_rng1, evI_rng2, evI_zip, evI_enm, evI_rng3, zip_tup, zip_lst, tru_bl, tru_int, R.bind_ok, FR.of_ok, seq_next, seq_ret, seq_brk, seq_cont, seq_exc, seq_ite, of_some, of_none, get_d, get_fr, get_pl, cont_dat, cont_own, cont_bor, cont_lck, frz_d, frz_fr, asg_d, asg_fr, argF, argT, gets_nil, gets_cons, ags_nil, ags_cons, ag_d, lents_d, lents_pl, lents_nil, backs_nil, backs_d, backs_pl, backW, lock_d, lock_fr, lock_pl, setW, tgD, tgsD, normW, finA, List.getElem?_cons_zero, List.getElem?_cons_succ, List.set_cons_zero, List.set_cons_succ, Option.bind_some, Option.bind_none, Option.map_some, Option.map_none, List.map_cons, List.map_nil, List.replicate, List.cons_append, List.nil_append, Bool.and_true, Bool.and_self, if_true, if_false, Bool.false_eq_true, reduceCtorEq, List.length_cons, List.length_nil, Nat.reduceAdd, Nat.reduceSub, List.all_cons, List.all_nil, List.getD_cons_zero, List.getD_cons_succ, plainVs, backV, wipeW, biD, len_lst, len_tup, len_scr, tupleD, listD, allD, intD, absD, isiD, isiO_non, isiO_bl, isiO_int, isiO_str, isiO_tup, isiO_lst, isiO_scr, len_gl, x_gl, isN, b_add, b_sub, b_mulr, b_mull, b_fdiv, b_mod, b_pow, b_shl, b_shr, b_band, b_bor, b_bxor, b_addt, b_addl, b_repl, c_eqi, c_eqs, c_eqb, c_nei, c_nes, c_lt, c_le, c_gt, c_ge, c_is, c_isn, c_isb, c_isnb, isB, c_in, x_lst, x_tup, x_scr, it_lst, it_tup, it_scr, Bool.not_true, Bool.not_false, id_eq, blsOf, intsOf, strsOf, and_self, true_and, and_true, Nat.reduceMul, Nat.reducePow, Nat.reduceLeDiff, Int.reduceLT, Int.reduceLE, Int.reduceNeg, Int.reducePow, Int.reduceToNat, Int.reduceMul, Int.reduceAdd, Int.reduceSub, List.flatten_cons, List.flatten_nil, List.append_nil, line_nil, line_n, decide_true, decide_false, e, blsOf_map (fun _ => true), al]
theorem callG_1x {φ : Phi} {f : Nat} {x : D} {e : Ex} {w : Pv.W} (h : φ f [.dat x] = .exc e [w]) (ρ : Pv.Env) : callG φ f [.d x] ρ = .exc e ρ := by
  unfold callG
  rw [if_pos (by simp [lents])]
  simp only [ags_cons, ag_d, ags_nil, Option.bind_some, Option.map_some, h, backs_d, backs_nil, of_some, R.bind_ok]
theorem run_tryAs (φ : Phi) (ρ : Pv.Env) (b : Ss) (c i : Nat) (su : Su) : run φ (.tryAs b c i su) ρ = tryX (runs φ b ρ) (asX c i su) := by rw [Pv.run]
def asked (d : D) : D := if addrB d = true then d else .tup [.non, .str "InvalidAddress"]
theorem law_asked (k : Nat) {d : D} (h : Ok1 d) (hn : d ≠ .non) : callK (prg rows) (k + 4) 18 [.dat d] = .ok (.d (asked d)) [.dat d] := by
  rw [callK_run p18]
  unfold runF c__law_asked
  rw [if_pos ⟨rfl, rfl⟩]
  have ho := octets_of k h hn
  unfold asked
  show finF _ _ (runs _ _ [.dat d, .un]) = _
  rw [runs_cons, run_tryAs]
  cases q : addrB d with
  | true =>
    rw [q, if_pos rfl] at ho
    simp only [runs_nil, runs_cons, run_asg, run_asgT, run_par, run_aug, run_app, run_seti, run_expr, run_iff, run_whl, run_fr, run_ret, run_retN, run_pass, run_brk, run_cont, ev_var, ev_cst, ev_tup, ev_lst, ev_bin, ev_neg, ev_cmp, ev_cmp2, ev_and, ev_or, ev_not, ev_ife, ev_ix, ev_sl, ev_call, ev_bi, ev_isi, ev_mt1, ev_lc, ev_ali, ev_mkT, ev_callT, run_tape, run_mpar, evM_nil, evM_cons, thaw_d, thaw_fr, thaw_pl, asgs, run_gset, run_gpop, glL, putG, setG, fin_next, fin_ret, fin_exc, fin_any, seq_any, evs_nil, evs_cons, evL_nil, evL_cons, evG_nil, evG_cons, evT_yes, evT_not, evT_and, evT_or, evT_ife, evT_val, evO_no, evO_so, evI_ex, evI_rng1, evI_rng2, evI_zip, evI_enm, evI_rng3, zip_tup, zip_lst, tru_bl, tru_int, R.bind_ok, FR.of_ok, seq_next, seq_ret, seq_brk, seq_cont, seq_exc, seq_ite, of_some, of_none, get_d, get_fr, get_pl, cont_dat, cont_own, cont_bor, cont_lck, frz_d, frz_fr, asg_d, asg_fr, argF, argT, gets_nil, gets_cons, ags_nil, ags_cons, ag_d, lents_d, lents_pl, lents_nil, backs_nil, backs_d, backs_pl, backW, lock_d, lock_fr, lock_pl, setW, tgD, tgsD, normW, finA, List.getElem?_cons_zero, List.getElem?_cons_succ, List.set_cons_zero, List.set_cons_succ, Option.bind_some, Option.bind_none, Option.map_some, Option.map_none, List.map_cons, List.map_nil, List.replicate, List.cons_append, List.nil_append, Bool.and_true, Bool.and_self, if_true, if_false, Bool.false_eq_true, reduceCtorEq, List.length_cons, List.length_nil, Nat.reduceAdd, Nat.reduceSub, List.all_cons, List.all_nil, List.getD_cons_zero, List.getD_cons_succ, plainVs, backV, wipeW, biD, len_lst, len_tup, len_scr, tupleD, listD, allD, intD, absD, isiD, isiO_non, isiO_bl, isiO_int, isiO_str, isiO_tup, isiO_lst, isiO_scr, len_gl, x_gl, isN, b_add, b_sub, b_mulr, b_mull, b_fdiv, b_mod, b_pow, b_shl, b_shr, b_band, b_bor, b_bxor, b_addt, b_addl, b_repl, c_eqi, c_eqs, c_eqb, c_nei, c_nes, c_lt, c_le, c_gt, c_ge, c_is, c_isn, c_isb, c_isnb, isB, c_in, x_lst, x_tup, x_scr, it_lst, it_tup, it_scr, Bool.not_true, Bool.not_false, id_eq, blsOf, intsOf, strsOf, and_self, true_and, and_true, Nat.reduceMul, Nat.reducePow, Nat.reduceLeDiff, Int.reduceLT, Int.reduceLE, Int.reduceNeg, Int.reducePow, Int.reduceToNat, Int.reduceMul, Int.reduceAdd, Int.reduceSub, List.flatten_cons, List.flatten_nil, List.append_nil, line_nil, line_n, decide_true, decide_false, callG_1 ho]
    rfl
  | false =>
    rw [q, if_neg (by decide)] at ho
    simp only [runs_nil, runs_cons, run_asg, run_asgT, run_par, run_aug, run_app, run_seti, run_expr, run_iff, run_whl, run_fr, run_ret, run_retN, run_pass, run_brk, run_cont, ev_var, ev_cst, ev_tup, ev_lst, ev_bin, ev_neg, ev_cmp, ev_cmp2, ev_and, ev_or, ev_not, ev_ife, ev_ix, ev_sl, ev_call, ev_bi, ev_isi, ev_mt1, ev_lc, ev_ali, ev_mkT, ev_callT, run_tape, run_mpar, evM_nil, evM_cons, thaw_d, thaw_fr, thaw_pl, asgs, run_gset, run_gpop, glL, putG, setG, fin_next, fin_ret, fin_exc, fin_any, seq_any, evs_nil, evs_cons, evL_nil, evL_cons, evG_nil, evG_cons, evT_yes, evT_not, evT_and, evT_or, evT_ife, evT_val, evO_no, evO_so, evI_ex, evI_rng1, evI_rng2, evI_zip, evI_enm, evI_rng3, zip_tup, zip_lst, tru_bl, tru_int, R.bind_ok, FR.of_ok, seq_next, seq_ret, seq_brk, seq_cont, seq_exc, seq_ite, of_some, of_none, get_d, get_fr, get_pl, cont_dat, cont_own, cont_bor, cont_lck, frz_d, frz_fr, asg_d, asg_fr, argF, argT, gets_nil, gets_cons, ags_nil, ags_cons, ag_d, lents_d, lents_pl, lents_nil, backs_nil, backs_d, backs_pl, backW, lock_d, lock_fr, lock_pl, setW, tgD, tgsD, normW, finA, List.getElem?_cons_zero, List.getElem?_cons_succ, List.set_cons_zero, List.set_cons_succ, Option.bind_some, Option.bind_none, Option.map_some, Option.map_none, List.map_cons, List.map_nil, List.replicate, List.cons_append, List.nil_append, Bool.and_true, Bool.and_self, if_true, if_false, Bool.false_eq_true, reduceCtorEq, List.length_cons, List.length_nil, Nat.reduceAdd, Nat.reduceSub, List.all_cons, List.all_nil, List.getD_cons_zero, List.getD_cons_succ, plainVs, backV, wipeW, biD, len_lst, len_tup, len_scr, tupleD, listD, allD, intD, absD, isiD, isiO_non, isiO_bl, isiO_int, isiO_str, isiO_tup, isiO_lst, isiO_scr, len_gl, x_gl, isN, b_add, b_sub, b_mulr, b_mull, b_fdiv, b_mod, b_pow, b_shl, b_shr, b_band, b_bor, b_bxor, b_addt, b_addl, b_repl, c_eqi, c_eqs, c_eqb, c_nei, c_nes, c_lt, c_le, c_gt, c_ge, c_is, c_isn, c_isb, c_isnb, isB, c_in, x_lst, x_tup, x_scr, it_lst, it_tup, it_scr, Bool.not_true, Bool.not_false, id_eq, blsOf, intsOf, strsOf, and_self, true_and, and_true, Nat.reduceMul, Nat.reducePow, Nat.reduceLeDiff, Int.reduceLT, Int.reduceLE, Int.reduceNeg, Int.reducePow, Int.reduceToNat, Int.reduceMul, Int.reduceAdd, Int.reduceSub, List.flatten_cons, List.flatten_nil, List.append_nil, line_nil, line_n, decide_true, decide_false, callG_1x ho, R.bind_exc, FR.of_exc]
    rfl

def b6_0 : S := (.asg (.name 9) (.callT 15 (.cons true (.var 1) (.cons false (.lst (.cons false (.var 6) (.cons false (.var 7) .nil))) .nil)) 17))
def b6_1 : S := (.asg (.name 10) (.callT 14 (.cons true (.var 1) (.cons false (.bi 0 (.cons false (.var 9) .nil)) .nil)) 17))
def b6_2 : S := (.asg (.name 11) (.callT 15 (.cons true (.var 1) (.cons false (.lst (.cons false (.cst (.int 0)) (.cons false (.cst (.int 1)) (.cons false (.cst (.int 2)) (.cons false (.cst (.int 3)) (.cons false (.cst (.int 30)) (.cons false (.cst (.int 31)) (.cons false (.cst (.int 200)) (.cons false (.cst (.int 201)) (.cons false (.cst (.int 202)) (.cons false (.cst (.int 250)) (.cons false (.cst (.int 251)) (.cons false (.cst (.int 255)) (.cons false (.cst (.int 256)) (.cons false (.neg (.cst (.int 1))) (.cons false (.cst (.bl true)) (.cons false (.cst .non) .nil))))))))))))))))) .nil)) 17))
def b6_3 : S := (.asg (.name 12) (.callT 15 (.cons true (.var 1) (.cons false (.lst (.cons false (.bin .Add (.bin .Add (.sl (.var 9) .no (.so (.var 10))) (.tup (.cons false (.var 11) .nil))) (.sl (.var 9) (.so (.bin .Add (.var 10) (.cst (.int 1)))) .no)) (.cons false (.bin .Add (.sl (.var 9) .no (.so (.var 10))) (.sl (.var 9) (.so (.bin .Add (.var 10) (.cst (.int 1)))) .no)) (.cons false (.bin .Add (.var 9) (.tup (.cons false (.var 11) .nil))) (.cons false (.sl (.var 9) .no (.so (.var 10))) (.cons false (.bi 2 (.cons false (.var 9) .nil)) (.cons false (.cst .non) (.cons false (.cst (.str "ask")) .nil)))))))) .nil)) 17))
def b6_4 : S := (.iff (.not (.val (.call 16 (.cons false (.call 12 (.cons false (.var 12) .nil)) (.cons false (.call 17 (.cons false (.var 12) .nil)) .nil))))) (.cons (.ret (.cst (.bl false))) .nil) .nil)
def body6 : Ss := (.cons b6_0 (.cons b6_1 (.cons b6_2 (.cons b6_3 (.cons b6_4 .nil)))))
theorem code6 : c_law_6 = .cons (.fr (.name 8) (.rng1 (.cst (.int 12))) body6) c_law_7 := rfl
def b7_0 : S := (.asg (.name 14) (.and (.isi (.var 13) 0) (.not (.isi (.var 13) 1))))
def b7_1 : S := (.iff (.or (.val (.cmp .NotEq (.call 8 (.cons false (.var 13) .nil)) (.and (.var 14) (.cmp2 .LtE .LtE (.cst (.int 1)) (.var 13) (.cst (.int 200)))))) (.val (.cmp .NotEq (.call 9 (.cons false (.var 13) .nil)) (.and (.var 14) (.cmp2 .LtE .LtE (.cst (.int 1)) (.var 13) (.cst (.int 201))))))) (.cons (.ret (.cst (.bl false))) .nil) .nil)
def body7 : Ss := (.cons b7_0 (.cons b7_1 .nil))
theorem code7 : c_law_7 = .cons (.fr (.name 13) (.ex (.lst (.cons false (.cst (.int 0)) (.cons false (.cst (.int 1)) (.cons false (.cst (.int 30)) (.cons false (.cst (.int 31)) (.cons false (.cst (.int 200)) (.cons false (.cst (.int 201)) (.cons false (.cst (.int 202)) (.cons false (.neg (.cst (.int 1))) (.cons false (.cst (.bl true)) (.cons false (.cst .non) (.cons false (.cst (.str "1")) (.cons false (.tup (.cons false (.cst (.int 1)) .nil)) (.cons false (.var 2) (.cons false (.var 3) .nil)))))))))))))))) body7) c_law_8 := rfl
def b8_0 : S := (.asg (.name 15) (.tup (.cons false (.callT 15 (.cons true (.var 1) (.cons false (.lst (.cons false (.cst (.int 0)) (.cons false (.cst (.int 1)) (.cons false (.cst (.int 2)) (.cons false (.cst (.int 29)) (.cons false (.cst (.int 30)) (.cons false (.cst (.int 31)) (.cons false (.cst (.bl true)) (.cons false (.cst .non) (.cons false (.ix (.var 5) (.cst (.int 0))) .nil)))))))))) .nil)) 17) (.cons false (.callT 15 (.cons true (.var 1) (.cons false (.lst (.cons false (.cst (.int 0)) (.cons false (.cst (.int 1)) (.cons false (.cst (.int 249)) (.cons false (.cst (.int 250)) (.cons false (.cst (.int 251)) (.cons false (.cst (.bl false)) (.cons false (.cst (.str "2")) (.cons false (.ix (.var 5) (.cst (.int 1))) .nil))))))))) .nil)) 17) .nil))))
def b8_1 : S := (.asg (.name 16) (.and (.bi 3 (.cons false (.lc (.and (.isi (.var 11) 0) (.not (.isi (.var 11) 1))) (.name 11) (.ex (.var 15)) .yes [11]) .nil)) (.and (.cmp2 .LtE .LtE (.cst (.int 1)) (.ix (.var 15) (.cst (.int 0))) (.cst (.int 30))) (.cmp2 .LtE .LtE (.cst (.int 1)) (.ix (.var 15) (.cst (.int 1))) (.cst (.int 250))))))
def b8_2 : S := (.iff (.or (.val (.cmp .NotEq (.call 5 (.cons false (.var 15) .nil)) (.var 16))) (.not (.val (.call 16 (.cons false (.call 18 (.cons false (.var 15) .nil)) (.cons false (.ife (.val (.var 16)) (.var 15) (.tup (.cons false (.cst .non) (.cons false (.cst (.str "InvalidAddress")) .nil)))) .nil)))))) (.cons (.ret (.cst (.bl false))) .nil) .nil)
def b8_3 : S := (.iff (.or (.and (.val (.var 16)) (.or (.val (.cmp .NotEq (.call 7 (.cons false (.var 15) .nil)) (.var 15))) (.val (.cmp .NotEq (.call 7 (.cons false (.bi 2 (.cons false (.var 15) .nil)) .nil)) (.var 15))))) (.or (.val (.call 5 (.cons false (.bi 2 (.cons false (.var 15) .nil)) .nil))) (.val (.call 5 (.cons false (.bin .Add (.var 15) (.tup (.cons false (.cst (.int 1)) .nil))) .nil))))) (.cons (.ret (.cst (.bl false))) .nil) .nil)
def body8 : Ss := (.cons b8_0 (.cons b8_1 (.cons b8_2 (.cons b8_3 .nil))))
theorem code8 : c_law_8 = .cons (.fr (.name 8) (.rng1 (.cst (.int 8))) body8) c_law_9 := rfl

abbrev φ : Phi := callK (prg rows) 8
theorem pt_word (ds : List D) : PT 2 (wordP ds) := by
  unfold wordP
  split
  · unfold wordD
    split
    · split
      · split
        · split
          · exact pt_tup (by decide : 4 ≤ 1000) (fa_cons (pt_str _) (fa_cons (pt_int _) (fa_cons (pt_int _) (fa_cons (pt_int _) fa_nil))))
          · exact pt_non
        · exact pt_non
      · exact pt_non
    · split
      · split
        · split
          · split
            · exact pt_tup (by decide : 5 ≤ 1000) (fa_cons (pt_str _) (fa_cons (pt_int _) (fa_cons (pt_int _) (fa_cons (pt_int _) (fa_cons (pt_tup (by decide : 2 ≤ 1000) (fa_cons (pt_int _) (fa_cons (pt_int _) fa_nil))) fa_nil)))))
            · exact pt_non
          · exact pt_non
        · exact pt_non
      · exact pt_non
    · exact pt_non
  · exact pt_non
def Bent (x : D) : Prop := (∃ ds, x = .tup ds ∧ ds.length ≤ 1000 ∧ ∀ y ∈ ds, Sol y) ∨ (Sol x ∧ ∀ ds, x ≠ .tup ds)
theorem words {x : D} (h : Bent x) : ∃ y, PT 2 y ∧ φ 12 [.dat x] = .ok (.d y) [.dat x] ∧ φ 17 [.dat x] = .ok (.d y) [.dat x] := by
  rcases h with ⟨ds, rfl, hl, hx⟩ | ⟨hs, ht⟩
  · exact ⟨wordP ds, pt_word ds, word1 3 hl hx, word2 3 hl hx⟩
  · exact ⟨.non, pt_non, word1_no 3 hs ht, word2_no 3 hs ht⟩
theorem same2 {d : D} (h : PT 2 d) : φ 16 [.dat d, .dat d] = .ok (.d (.bl true)) [.dat d, .dat d] := same 2 5 h
theorem cut_mem {xs : List D} {lo hi : Option Int} {x : D} (h : x ∈ cutD xs lo hi) : x ∈ xs := List.mem_of_mem_drop (List.mem_of_mem_take h)
theorem cut_len {xs : List D} {lo hi : Option Int} : (cutD xs lo hi).length ≤ xs.length := by
  unfold cutD
  rw [List.length_take, List.length_drop]
  omega
def ones : List D := [.int 0, .int 1, .int 2, .int 3, .int 30, .int 31, .int 200, .int 201, .int 202, .int 250, .int 251, .int 255, .int 256, .int (-1), .bl true, .non]
theorem sol_ones : ∀ x ∈ ones, Sol x := by
  intro x hx
  simp only [ones, List.mem_cons, List.not_mem_nil, or_false] at hx
  rcases hx with rfl | rfl | rfl | rfl | rfl | rfl | rfl | rfl | rfl | rfl | rfl | rfl | rfl | rfl | rfl | rfl <;> exact fun _ => rfl
theorem turn6 {b : Nat} {d e : D} (t : Tp b d e) {xs ys : List D} (hx : ∀ x ∈ xs, Sol x) (hy : ∀ x ∈ ys, Sol x) (lx : 0 < xs.length ∧ xs.length ≤ 100) (ly : 0 < ys.length ∧ ys.length ≤ 100) (a0 a2 a3 a4 a5 a8 a13 a14 a15 a16 : Pv.W) {w9 w10 w11 w12 : Pv.W} (h9 : Dull w9) (h10 : Dull w10) (h11 : Dull w11) (h12 : Dull w12) :
    ∃ d' e' x9 x10 x11 x12, runs φ body6 [a0, .own d, a2, a3, a4, a5, .dat (.tup xs), .dat (.tup ys), a8, w9, w10, w11, w12, a13, a14, a15, a16, .own e] = .next [a0, .own d', a2, a3, a4, a5, .dat (.tup xs), .dat (.tup ys), a8, .dat x9, .dat x10, .dat x11, .dat x12, a13, a14, a15, a16, .own e'] ∧ Tp b d' e' := by
  obtain ⟨o, d1, e1, ed1, t1, ho⟩ := pickT_ok p15 p14 6 t (row := [.tup xs, .tup ys]) (by decide : 0 < 2) (by decide : 2 ≤ 1000)
  obtain ⟨os, rfl, hs, l0, l1⟩ : ∃ os, o = .tup os ∧ (∀ x ∈ os, Sol x) ∧ 0 < os.length ∧ os.length ≤ 100 := by
    simp only [List.mem_cons, List.not_mem_nil, or_false] at ho
    rcases ho with rfl | rfl
    · exact ⟨xs, rfl, hx, lx.1, lx.2⟩
    · exact ⟨ys, rfl, hy, ly.1, ly.2⟩
  obtain ⟨v, d2, e2, ed2, t2, v0, v1⟩ := draw_ok p14 7 (many := (os.length : Int)) t1 (by omega) (by omega)
  obtain ⟨one, d3, e3, ed3, t3, hone⟩ := pickT_ok p15 p14 6 t2 (row := ones) (by decide) (by decide)
  have so := sol_ones one hone
  have c1 := cut_len (xs := os) (lo := none) (hi := some v)
  have c2 := cut_len (xs := os) (lo := some (v + 1)) (hi := none)
  have q1 : (cutD os none (some v)).length + [one].length ≤ Line := line_k (by rw [List.length_singleton]; omega)
  have q2 : (cutD os none (some v) ++ [one]).length + (cutD os (some (v + 1)) none).length ≤ Line := line_k (by rw [List.length_append, List.length_singleton]; omega)
  have q3 : (cutD os none (some v)).length + (cutD os (some (v + 1)) none).length ≤ Line := line_k (by omega)
  have q4 : os.length + [one].length ≤ Line := line_k (by rw [List.length_singleton]; omega)
  have el : evL φ (.cons true (.var 1) (.cons false (.lst (.cons false (.bin .Add (.bin .Add (.sl (.var 9) .no (.so (.var 10))) (.tup (.cons false (.var 11) .nil))) (.sl (.var 9) (.so (.bin .Add (.var 10) (.cst (.int 1)))) .no)) (.cons false (.bin .Add (.sl (.var 9) .no (.so (.var 10))) (.sl (.var 9) (.so (.bin .Add (.var 10) (.cst (.int 1)))) .no)) (.cons false (.bin .Add (.var 9) (.tup (.cons false (.var 11) .nil))) (.cons false (.sl (.var 9) .no (.so (.var 10))) (.cons false (.bi 2 (.cons false (.var 9) .nil)) (.cons false (.cst .non) (.cons false (.cst (.str "ask")) .nil)))))))) .nil))
      [a0, .own d3, a2, a3, a4, a5, .dat (.tup xs), .dat (.tup ys), a8, .dat (.tup os), .dat (.int v), .dat one, w12, a13, a14, a15, a16, .own e3] = .ok [.pl 1, .d (.lst [.tup (cutD os none (some v) ++ [one] ++ cutD os (some (v + 1)) none), .tup (cutD os none (some v) ++ cutD os (some (v + 1)) none), .tup (os ++ [one]), .tup (cutD os none (some v)), .lst os, .non, .str "ask"])]
      [a0, .own d3, a2, a3, a4, a5, .dat (.tup xs), .dat (.tup ys), a8, .dat (.tup os), .dat (.int v), .dat one, w12, a13, a14, a15, a16, .own e3] := by
    simp only [runs_nil, runs_cons, run_asg, run_asgT, run_par, run_aug, run_app, run_seti, run_expr, run_iff, run_whl, run_fr, run_ret, run_retN, run_pass, run_brk, run_cont, ev_var, ev_cst, ev_tup, ev_lst, ev_bin, ev_neg, ev_cmp, ev_cmp2, ev_and, ev_or, ev_not, ev_ife, ev_ix, ev_sl, ev_call, ev_bi, ev_isi, ev_mt1, ev_lc, ev_ali, ev_mkT, ev_callT, run_tape, run_mpar, evM_nil, evM_cons, thaw_d, thaw_fr, thaw_pl, asgs, run_gset, run_gpop, glL, putG, setG, fin_next, fin_ret, fin_exc, fin_any, seq_any, evs_nil, evs_cons, evL_nil, evL_cons, evG_nil, evG_cons, evT_yes, evT_not, evT_and, evT_or, evT_ife, evT_val, evO_no, evO_so, evI_ex, evI_rng1, evI_rng2, evI_zip, evI_enm, evI_rng3, zip_tup, zip_lst, tru_bl, tru_int, R.bind_ok, FR.of_ok, seq_next, seq_ret, seq_brk, seq_cont, seq_exc, seq_ite, of_some, of_none, get_d, get_fr, get_pl, cont_dat, cont_own, cont_bor, cont_lck, frz_d, frz_fr, asg_d, asg_fr, argF, argT, gets_nil, gets_cons, ags_nil, ags_cons, ag_d, lents_d, lents_pl, lents_nil, backs_nil, backs_d, backs_pl, backW, lock_d, lock_fr, lock_pl, setW, tgD, tgsD, normW, finA, List.getElem?_cons_zero, List.getElem?_cons_succ, List.set_cons_zero, List.set_cons_succ, Option.bind_some, Option.bind_none, Option.map_some, Option.map_none, List.map_cons, List.map_nil, List.replicate, List.cons_append, List.nil_append, Bool.and_true, Bool.and_self, if_true, if_false, Bool.false_eq_true, reduceCtorEq, List.length_cons, List.length_nil, Nat.reduceAdd, Nat.reduceSub, List.all_cons, List.all_nil, List.getD_cons_zero, List.getD_cons_succ, plainVs, backV, wipeW, biD, len_lst, len_tup, len_scr, tupleD, listD, allD, intD, absD, isiD, isiO_non, isiO_bl, isiO_int, isiO_str, isiO_tup, isiO_lst, isiO_scr, len_gl, x_gl, isN, b_add, b_sub, b_mulr, b_mull, b_fdiv, b_mod, b_pow, b_shl, b_shr, b_band, b_bor, b_bxor, b_addt, b_addl, b_repl, c_eqi, c_eqs, c_eqb, c_nei, c_nes, c_lt, c_le, c_gt, c_ge, c_is, c_isn, c_isb, c_isnb, isB, c_in, x_lst, x_tup, x_scr, it_lst, it_tup, it_scr, Bool.not_true, Bool.not_false, id_eq, blsOf, intsOf, strsOf, and_self, true_and, and_true, Nat.reduceMul, Nat.reducePow, Nat.reduceLeDiff, Int.reduceLT, Int.reduceLE, Int.reduceNeg, Int.reducePow, Int.reduceToNat, Int.reduceMul, Int.reduceAdd, Int.reduceSub, List.flatten_cons, List.flatten_nil, List.append_nil, line_nil, line_n, decide_true, decide_false, sl_tup, b_addt _ _ q1, b_addt _ _ q2, b_addt _ _ q3, b_addt _ _ q4]
  obtain ⟨bt, d4, e4, ed4, t4, hbt⟩ := pickT_ok p15 p14 6 t3 (row := [.tup (cutD os none (some v) ++ [one] ++ cutD os (some (v + 1)) none), .tup (cutD os none (some v) ++ cutD os (some (v + 1)) none), .tup (os ++ [one]), .tup (cutD os none (some v)), .lst os, .non, .str "ask"]) (by decide : 0 < 7) (by decide : 7 ≤ 1000)
  have hB : Bent bt := by
    simp only [List.mem_cons, List.not_mem_nil, or_false] at hbt
    rcases hbt with rfl | rfl | rfl | rfl | rfl | rfl | rfl
    · refine .inl ⟨_, rfl, by rw [List.length_append, List.length_append, List.length_singleton]; omega, fun y hy => ?_⟩
      rcases List.mem_append.mp hy with z | z
      · rcases List.mem_append.mp z with z | z
        · exact hs y (cut_mem z)
        · rw [List.mem_singleton.mp z]; exact so
      · exact hs y (cut_mem z)
    · refine .inl ⟨_, rfl, by rw [List.length_append]; omega, fun y hy => ?_⟩
      rcases List.mem_append.mp hy with z | z
      · exact hs y (cut_mem z)
      · exact hs y (cut_mem z)
    · refine .inl ⟨_, rfl, by rw [List.length_append, List.length_singleton]; omega, fun y hy => ?_⟩
      rcases List.mem_append.mp hy with z | z
      · exact hs y z
      · rw [List.mem_singleton.mp z]; exact so
    · exact .inl ⟨_, rfl, by omega, fun y hy => hs y (cut_mem hy)⟩
    · exact .inr ⟨fun _ => rfl, fun ds z => by cases z⟩
    · exact .inr ⟨fun _ => rfl, fun ds z => by cases z⟩
    · exact .inr ⟨fun _ => rfl, fun ds z => by cases z⟩
  obtain ⟨y, py, ey1, ey2⟩ := words hB
  have s0 : run φ b6_0 [a0, .own d, a2, a3, a4, a5, .dat (.tup xs), .dat (.tup ys), a8, w9, w10, w11, w12, a13, a14, a15, a16, .own e] = .next [a0, .own d1, a2, a3, a4, a5, .dat (.tup xs), .dat (.tup ys), a8, .dat (.tup os), w10, w11, w12, a13, a14, a15, a16, .own e1] :=
    asgX (ρ' := [a0, .own d1, a2, a3, a4, a5, .dat (.tup xs), .dat (.tup ys), a8, w9, w10, w11, w12, a13, a14, a15, a16, .own e1]) (by simp only [runs_nil, runs_cons, run_asg, run_asgT, run_par, run_aug, run_app, run_seti, run_expr, run_iff, run_whl, run_fr, run_ret, run_retN, run_pass, run_brk, run_cont, ev_var, ev_cst, ev_tup, ev_lst, ev_bin, ev_neg, ev_cmp, ev_cmp2, ev_and, ev_or, ev_not, ev_ife, ev_ix, ev_sl, ev_call, ev_bi, ev_isi, ev_mt1, ev_lc, ev_ali, ev_mkT, ev_callT, run_tape, run_mpar, evM_nil, evM_cons, thaw_d, thaw_fr, thaw_pl, asgs, run_gset, run_gpop, glL, putG, setG, fin_next, fin_ret, fin_exc, fin_any, seq_any, evs_nil, evs_cons, evL_nil, evL_cons, evG_nil, evG_cons, evT_yes, evT_not, evT_and, evT_or, evT_ife, evT_val, evO_no, evO_so, evI_ex, evI_rng1, evI_rng2, evI_zip, evI_enm, evI_rng3, zip_tup, zip_lst, tru_bl, tru_int, R.bind_ok, FR.of_ok, seq_next, seq_ret, seq_brk, seq_cont, seq_exc, seq_ite, of_some, of_none, get_d, get_fr, get_pl, cont_dat, cont_own, cont_bor, cont_lck, frz_d, frz_fr, asg_d, asg_fr, argF, argT, gets_nil, gets_cons, ags_nil, ags_cons, ag_d, lents_d, lents_pl, lents_nil, backs_nil, backs_d, backs_pl, backW, lock_d, lock_fr, lock_pl, setW, tgD, tgsD, normW, finA, List.getElem?_cons_zero, List.getElem?_cons_succ, List.set_cons_zero, List.set_cons_succ, Option.bind_some, Option.bind_none, Option.map_some, Option.map_none, List.map_cons, List.map_nil, List.replicate, List.cons_append, List.nil_append, Bool.and_true, Bool.and_self, if_true, if_false, Bool.false_eq_true, reduceCtorEq, List.length_cons, List.length_nil, Nat.reduceAdd, Nat.reduceSub, List.all_cons, List.all_nil, List.getD_cons_zero, List.getD_cons_succ, plainVs, backV, wipeW, biD, len_lst, len_tup, len_scr, tupleD, listD, allD, intD, absD, isiD, isiO_non, isiO_bl, isiO_int, isiO_str, isiO_tup, isiO_lst, isiO_scr, len_gl, x_gl, isN, b_add, b_sub, b_mulr, b_mull, b_fdiv, b_mod, b_pow, b_shl, b_shr, b_band, b_bor, b_bxor, b_addt, b_addl, b_repl, c_eqi, c_eqs, c_eqb, c_nei, c_nes, c_lt, c_le, c_gt, c_ge, c_is, c_isn, c_isb, c_isnb, isB, c_in, x_lst, x_tup, x_scr, it_lst, it_tup, it_scr, Bool.not_true, Bool.not_false, id_eq, blsOf, intsOf, strsOf, and_self, true_and, and_true, Nat.reduceMul, Nat.reducePow, Nat.reduceLeDiff, Int.reduceLT, Int.reduceLE, Int.reduceNeg, Int.reducePow, Int.reduceToNat, Int.reduceMul, Int.reduceAdd, Int.reduceSub, List.flatten_cons, List.flatten_nil, List.append_nil, line_nil, line_n, decide_true, decide_false, callG_to (i := 1) (g := 17) (by decide) ed1]) rfl h9
  have s1 : run φ b6_1 [a0, .own d1, a2, a3, a4, a5, .dat (.tup xs), .dat (.tup ys), a8, .dat (.tup os), w10, w11, w12, a13, a14, a15, a16, .own e1] = .next [a0, .own d2, a2, a3, a4, a5, .dat (.tup xs), .dat (.tup ys), a8, .dat (.tup os), .dat (.int v), w11, w12, a13, a14, a15, a16, .own e2] :=
    asgX (ρ' := [a0, .own d2, a2, a3, a4, a5, .dat (.tup xs), .dat (.tup ys), a8, .dat (.tup os), w10, w11, w12, a13, a14, a15, a16, .own e2]) (by simp only [runs_nil, runs_cons, run_asg, run_asgT, run_par, run_aug, run_app, run_seti, run_expr, run_iff, run_whl, run_fr, run_ret, run_retN, run_pass, run_brk, run_cont, ev_var, ev_cst, ev_tup, ev_lst, ev_bin, ev_neg, ev_cmp, ev_cmp2, ev_and, ev_or, ev_not, ev_ife, ev_ix, ev_sl, ev_call, ev_bi, ev_isi, ev_mt1, ev_lc, ev_ali, ev_mkT, ev_callT, run_tape, run_mpar, evM_nil, evM_cons, thaw_d, thaw_fr, thaw_pl, asgs, run_gset, run_gpop, glL, putG, setG, fin_next, fin_ret, fin_exc, fin_any, seq_any, evs_nil, evs_cons, evL_nil, evL_cons, evG_nil, evG_cons, evT_yes, evT_not, evT_and, evT_or, evT_ife, evT_val, evO_no, evO_so, evI_ex, evI_rng1, evI_rng2, evI_zip, evI_enm, evI_rng3, zip_tup, zip_lst, tru_bl, tru_int, R.bind_ok, FR.of_ok, seq_next, seq_ret, seq_brk, seq_cont, seq_exc, seq_ite, of_some, of_none, get_d, get_fr, get_pl, cont_dat, cont_own, cont_bor, cont_lck, frz_d, frz_fr, asg_d, asg_fr, argF, argT, gets_nil, gets_cons, ags_nil, ags_cons, ag_d, lents_d, lents_pl, lents_nil, backs_nil, backs_d, backs_pl, backW, lock_d, lock_fr, lock_pl, setW, tgD, tgsD, normW, finA, List.getElem?_cons_zero, List.getElem?_cons_succ, List.set_cons_zero, List.set_cons_succ, Option.bind_some, Option.bind_none, Option.map_some, Option.map_none, List.map_cons, List.map_nil, List.replicate, List.cons_append, List.nil_append, Bool.and_true, Bool.and_self, if_true, if_false, Bool.false_eq_true, reduceCtorEq, List.length_cons, List.length_nil, Nat.reduceAdd, Nat.reduceSub, List.all_cons, List.all_nil, List.getD_cons_zero, List.getD_cons_succ, plainVs, backV, wipeW, biD, len_lst, len_tup, len_scr, tupleD, listD, allD, intD, absD, isiD, isiO_non, isiO_bl, isiO_int, isiO_str, isiO_tup, isiO_lst, isiO_scr, len_gl, x_gl, isN, b_add, b_sub, b_mulr, b_mull, b_fdiv, b_mod, b_pow, b_shl, b_shr, b_band, b_bor, b_bxor, b_addt, b_addl, b_repl, c_eqi, c_eqs, c_eqb, c_nei, c_nes, c_lt, c_le, c_gt, c_ge, c_is, c_isn, c_isb, c_isnb, isB, c_in, x_lst, x_tup, x_scr, it_lst, it_tup, it_scr, Bool.not_true, Bool.not_false, id_eq, blsOf, intsOf, strsOf, and_self, true_and, and_true, Nat.reduceMul, Nat.reducePow, Nat.reduceLeDiff, Int.reduceLT, Int.reduceLE, Int.reduceNeg, Int.reducePow, Int.reduceToNat, Int.reduceMul, Int.reduceAdd, Int.reduceSub, List.flatten_cons, List.flatten_nil, List.append_nil, line_nil, line_n, decide_true, decide_false, callG_to (i := 1) (g := 17) (by decide) ed2]) rfl h10
  have s2 : run φ b6_2 [a0, .own d2, a2, a3, a4, a5, .dat (.tup xs), .dat (.tup ys), a8, .dat (.tup os), .dat (.int v), w11, w12, a13, a14, a15, a16, .own e2] = .next [a0, .own d3, a2, a3, a4, a5, .dat (.tup xs), .dat (.tup ys), a8, .dat (.tup os), .dat (.int v), .dat one, w12, a13, a14, a15, a16, .own e3] :=
    asgX (ρ' := [a0, .own d3, a2, a3, a4, a5, .dat (.tup xs), .dat (.tup ys), a8, .dat (.tup os), .dat (.int v), w11, w12, a13, a14, a15, a16, .own e3]) (by
      rw [ev_callT, show evL φ _ [a0, .own d2, a2, a3, a4, a5, .dat (.tup xs), .dat (.tup ys), a8, .dat (.tup os), .dat (.int v), w11, w12, a13, a14, a15, a16, .own e2] = .ok [.pl 1, .d (.lst ones)] [a0, .own d2, a2, a3, a4, a5, .dat (.tup xs), .dat (.tup ys), a8, .dat (.tup os), .dat (.int v), w11, w12, a13, a14, a15, a16, .own e2] from by kernel_rfl]
      simp only [R.bind_ok, List.cons_append, List.nil_append]
      rw [callG_to (i := 1) (g := 17) (by decide) ed3 rfl rfl]
      rfl) rfl h11
  have s3 : run φ b6_3 [a0, .own d3, a2, a3, a4, a5, .dat (.tup xs), .dat (.tup ys), a8, .dat (.tup os), .dat (.int v), .dat one, w12, a13, a14, a15, a16, .own e3] = .next [a0, .own d4, a2, a3, a4, a5, .dat (.tup xs), .dat (.tup ys), a8, .dat (.tup os), .dat (.int v), .dat one, .dat bt, a13, a14, a15, a16, .own e4] :=
    asgX (ρ' := [a0, .own d4, a2, a3, a4, a5, .dat (.tup xs), .dat (.tup ys), a8, .dat (.tup os), .dat (.int v), .dat one, w12, a13, a14, a15, a16, .own e4]) (by
      rw [ev_callT, el]
      simp only [R.bind_ok, List.cons_append, List.nil_append]
      rw [callG_to (i := 1) (g := 17) (by decide) ed4 rfl rfl]
      rfl) rfl h12
  have s4 : run φ b6_4 [a0, .own d4, a2, a3, a4, a5, .dat (.tup xs), .dat (.tup ys), a8, .dat (.tup os), .dat (.int v), .dat one, .dat bt, a13, a14, a15, a16, .own e4] = .next [a0, .own d4, a2, a3, a4, a5, .dat (.tup xs), .dat (.tup ys), a8, .dat (.tup os), .dat (.int v), .dat one, .dat bt, a13, a14, a15, a16, .own e4] :=
    iff_no (by simp only [runs_nil, runs_cons, run_asg, run_asgT, run_par, run_aug, run_app, run_seti, run_expr, run_iff, run_whl, run_fr, run_ret, run_retN, run_pass, run_brk, run_cont, ev_var, ev_cst, ev_tup, ev_lst, ev_bin, ev_neg, ev_cmp, ev_cmp2, ev_and, ev_or, ev_not, ev_ife, ev_ix, ev_sl, ev_call, ev_bi, ev_isi, ev_mt1, ev_lc, ev_ali, ev_mkT, ev_callT, run_tape, run_mpar, evM_nil, evM_cons, thaw_d, thaw_fr, thaw_pl, asgs, run_gset, run_gpop, glL, putG, setG, fin_next, fin_ret, fin_exc, fin_any, seq_any, evs_nil, evs_cons, evL_nil, evL_cons, evG_nil, evG_cons, evT_yes, evT_not, evT_and, evT_or, evT_ife, evT_val, evO_no, evO_so, evI_ex, evI_rng1, evI_rng2, evI_zip, evI_enm, evI_rng3, zip_tup, zip_lst, tru_bl, tru_int, R.bind_ok, FR.of_ok, seq_next, seq_ret, seq_brk, seq_cont, seq_exc, seq_ite, of_some, of_none, get_d, get_fr, get_pl, cont_dat, cont_own, cont_bor, cont_lck, frz_d, frz_fr, asg_d, asg_fr, argF, argT, gets_nil, gets_cons, ags_nil, ags_cons, ag_d, lents_d, lents_pl, lents_nil, backs_nil, backs_d, backs_pl, backW, lock_d, lock_fr, lock_pl, setW, tgD, tgsD, normW, finA, List.getElem?_cons_zero, List.getElem?_cons_succ, List.set_cons_zero, List.set_cons_succ, Option.bind_some, Option.bind_none, Option.map_some, Option.map_none, List.map_cons, List.map_nil, List.replicate, List.cons_append, List.nil_append, Bool.and_true, Bool.and_self, if_true, if_false, Bool.false_eq_true, reduceCtorEq, List.length_cons, List.length_nil, Nat.reduceAdd, Nat.reduceSub, List.all_cons, List.all_nil, List.getD_cons_zero, List.getD_cons_succ, plainVs, backV, wipeW, biD, len_lst, len_tup, len_scr, tupleD, listD, allD, intD, absD, isiD, isiO_non, isiO_bl, isiO_int, isiO_str, isiO_tup, isiO_lst, isiO_scr, len_gl, x_gl, isN, b_add, b_sub, b_mulr, b_mull, b_fdiv, b_mod, b_pow, b_shl, b_shr, b_band, b_bor, b_bxor, b_addt, b_addl, b_repl, c_eqi, c_eqs, c_eqb, c_nei, c_nes, c_lt, c_le, c_gt, c_ge, c_is, c_isn, c_isb, c_isnb, isB, c_in, x_lst, x_tup, x_scr, it_lst, it_tup, it_scr, Bool.not_true, Bool.not_false, id_eq, blsOf, intsOf, strsOf, and_self, true_and, and_true, Nat.reduceMul, Nat.reducePow, Nat.reduceLeDiff, Int.reduceLT, Int.reduceLE, Int.reduceNeg, Int.reducePow, Int.reduceToNat, Int.reduceMul, Int.reduceAdd, Int.reduceSub, List.flatten_cons, List.flatten_nil, List.append_nil, line_nil, line_n, decide_true, decide_false, callG_1 ey1, callG_1 ey2, callG_2 (same2 py)])
  refine ⟨d4, e4, .tup os, .int v, one, bt, ?_, t4⟩
  unfold body6
  rw [runs_cons, s0, seq_next, runs_cons, s1, seq_next, runs_cons, s2, seq_next, runs_cons, s3, seq_next, runs_cons, s4, seq_next, runs_nil]

def args8a : Es := (.cons true (.var 1) (.cons false (.lst (.cons false (.cst (.int 0)) (.cons false (.cst (.int 1)) (.cons false (.cst (.int 2)) (.cons false (.cst (.int 29)) (.cons false (.cst (.int 30)) (.cons false (.cst (.int 31)) (.cons false (.cst (.bl true)) (.cons false (.cst .non) (.cons false (.ix (.var 5) (.cst (.int 0))) .nil)))))))))) .nil))
def args8b : Es := (.cons true (.var 1) (.cons false (.lst (.cons false (.cst (.int 0)) (.cons false (.cst (.int 1)) (.cons false (.cst (.int 249)) (.cons false (.cst (.int 250)) (.cons false (.cst (.int 251)) (.cons false (.cst (.bl false)) (.cons false (.cst (.str "2")) (.cons false (.ix (.var 5) (.cst (.int 1))) .nil))))))))) .nil))
theorem code8_0 : b8_0 = .asg (.name 15) (.tup (.cons false (.callT 15 args8a 17) (.cons false (.callT 15 args8b 17) .nil))) := rfl
def plainE : E := (.and (.isi (.var 11) 0) (.not (.isi (.var 11) 1)))
theorem code8_1 : b8_1 = .asg (.name 16) (.and (.bi 3 (.cons false (.lc plainE (.name 11) (.ex (.var 15)) .yes [11]) .nil)) (.and (.cmp2 .LtE .LtE (.cst (.int 1)) (.ix (.var 15) (.cst (.int 0))) (.cst (.int 30))) (.cmp2 .LtE .LtE (.cst (.int 1)) (.ix (.var 15) (.cst (.int 1))) (.cst (.int 250))))) := rfl
def plainB : D → Bool
  | .int _ => true
  | _ => false
theorem c_nebl (a : Bool) : (!decide (a = a)) = false := by simp
theorem turn7 {v : D} (h : Sol v) (a0 a1 a2 a3 a4 a5 a6 a7 a8 a9 a10 a11 a12 a15 a16 a17 : Pv.W) {w14 : Pv.W} (h14 : Dull w14) :
    ∃ x14, runs φ body7 [a0, a1, a2, a3, a4, a5, a6, a7, a8, a9, a10, a11, a12, .dat v, w14, a15, a16, a17] = .next [a0, a1, a2, a3, a4, a5, a6, a7, a8, a9, a10, a11, a12, .dat v, .dat x14, a15, a16, a17] := by
  have s0 : run φ b7_0 [a0, a1, a2, a3, a4, a5, a6, a7, a8, a9, a10, a11, a12, .dat v, w14, a15, a16, a17] = .next [a0, a1, a2, a3, a4, a5, a6, a7, a8, a9, a10, a11, a12, .dat v, .dat (.bl (plainB v)), a15, a16, a17] :=
    asgX (ρ' := [a0, a1, a2, a3, a4, a5, a6, a7, a8, a9, a10, a11, a12, .dat v, w14, a15, a16, a17]) (by
      cases v with
      | adr b => exact not_adr h
      | gl b ds => exact not_gl h
      | dic x => simp only [runs_nil, runs_cons, run_asg, run_asgT, run_par, run_aug, run_app, run_seti, run_expr, run_iff, run_whl, run_fr, run_ret, run_retN, run_pass, run_brk, run_cont, ev_var, ev_cst, ev_tup, ev_lst, ev_bin, ev_neg, ev_cmp, ev_cmp2, ev_and, ev_or, ev_not, ev_ife, ev_ix, ev_sl, ev_call, ev_bi, ev_isi, ev_mt1, ev_lc, ev_ali, ev_mkT, ev_callT, run_tape, run_mpar, evM_nil, evM_cons, thaw_d, thaw_fr, thaw_pl, asgs, run_gset, run_gpop, glL, putG, setG, fin_next, fin_ret, fin_exc, fin_any, seq_any, evs_nil, evs_cons, evL_nil, evL_cons, evG_nil, evG_cons, evT_yes, evT_not, evT_and, evT_or, evT_ife, evT_val, evO_no, evO_so, evI_ex, evI_rng1, evI_rng2, evI_zip, evI_enm, evI_rng3, zip_tup, zip_lst, tru_bl, tru_int, R.bind_ok, FR.of_ok, seq_next, seq_ret, seq_brk, seq_cont, seq_exc, seq_ite, of_some, of_none, get_d, get_fr, get_pl, cont_dat, cont_own, cont_bor, cont_lck, frz_d, frz_fr, asg_d, asg_fr, argF, argT, gets_nil, gets_cons, ags_nil, ags_cons, ag_d, lents_d, lents_pl, lents_nil, backs_nil, backs_d, backs_pl, backW, lock_d, lock_fr, lock_pl, setW, tgD, tgsD, normW, finA, List.getElem?_cons_zero, List.getElem?_cons_succ, List.set_cons_zero, List.set_cons_succ, Option.bind_some, Option.bind_none, Option.map_some, Option.map_none, List.map_cons, List.map_nil, List.replicate, List.cons_append, List.nil_append, Bool.and_true, Bool.and_self, if_true, if_false, Bool.false_eq_true, reduceCtorEq, List.length_cons, List.length_nil, Nat.reduceAdd, Nat.reduceSub, List.all_cons, List.all_nil, List.getD_cons_zero, List.getD_cons_succ, plainVs, backV, wipeW, biD, len_lst, len_tup, len_scr, tupleD, listD, allD, intD, absD, isiD, isiO_non, isiO_bl, isiO_int, isiO_str, isiO_tup, isiO_lst, isiO_scr, len_gl, x_gl, isN, b_add, b_sub, b_mulr, b_mull, b_fdiv, b_mod, b_pow, b_shl, b_shr, b_band, b_bor, b_bxor, b_addt, b_addl, b_repl, c_eqi, c_eqs, c_eqb, c_nei, c_nes, c_lt, c_le, c_gt, c_ge, c_is, c_isn, c_isb, c_isnb, isB, c_in, x_lst, x_tup, x_scr, it_lst, it_tup, it_scr, Bool.not_true, Bool.not_false, id_eq, blsOf, intsOf, strsOf, and_self, true_and, and_true, Nat.reduceMul, Nat.reducePow, Nat.reduceLeDiff, Int.reduceLT, Int.reduceLE, Int.reduceNeg, Int.reducePow, Int.reduceToNat, Int.reduceMul, Int.reduceAdd, Int.reduceSub, List.flatten_cons, List.flatten_nil, List.append_nil, line_nil, line_n, decide_true, decide_false, plainB, h 0]
      | _ => simp only [runs_nil, runs_cons, run_asg, run_asgT, run_par, run_aug, run_app, run_seti, run_expr, run_iff, run_whl, run_fr, run_ret, run_retN, run_pass, run_brk, run_cont, ev_var, ev_cst, ev_tup, ev_lst, ev_bin, ev_neg, ev_cmp, ev_cmp2, ev_and, ev_or, ev_not, ev_ife, ev_ix, ev_sl, ev_call, ev_bi, ev_isi, ev_mt1, ev_lc, ev_ali, ev_mkT, ev_callT, run_tape, run_mpar, evM_nil, evM_cons, thaw_d, thaw_fr, thaw_pl, asgs, run_gset, run_gpop, glL, putG, setG, fin_next, fin_ret, fin_exc, fin_any, seq_any, evs_nil, evs_cons, evL_nil, evL_cons, evG_nil, evG_cons, evT_yes, evT_not, evT_and, evT_or, evT_ife, evT_val, evO_no, evO_so, evI_ex, evI_rng1, evI_rng2, evI_zip, evI_enm, evI_rng3, zip_tup, zip_lst, tru_bl, tru_int, R.bind_ok, FR.of_ok, seq_next, seq_ret, seq_brk, seq_cont, seq_exc, seq_ite, of_some, of_none, get_d, get_fr, get_pl, cont_dat, cont_own, cont_bor, cont_lck, frz_d, frz_fr, asg_d, asg_fr, argF, argT, gets_nil, gets_cons, ags_nil, ags_cons, ag_d, lents_d, lents_pl, lents_nil, backs_nil, backs_d, backs_pl, backW, lock_d, lock_fr, lock_pl, setW, tgD, tgsD, normW, finA, List.getElem?_cons_zero, List.getElem?_cons_succ, List.set_cons_zero, List.set_cons_succ, Option.bind_some, Option.bind_none, Option.map_some, Option.map_none, List.map_cons, List.map_nil, List.replicate, List.cons_append, List.nil_append, Bool.and_true, Bool.and_self, if_true, if_false, Bool.false_eq_true, reduceCtorEq, List.length_cons, List.length_nil, Nat.reduceAdd, Nat.reduceSub, List.all_cons, List.all_nil, List.getD_cons_zero, List.getD_cons_succ, plainVs, backV, wipeW, biD, len_lst, len_tup, len_scr, tupleD, listD, allD, intD, absD, isiD, isiO_non, isiO_bl, isiO_int, isiO_str, isiO_tup, isiO_lst, isiO_scr, len_gl, x_gl, isN, b_add, b_sub, b_mulr, b_mull, b_fdiv, b_mod, b_pow, b_shl, b_shr, b_band, b_bor, b_bxor, b_addt, b_addl, b_repl, c_eqi, c_eqs, c_eqb, c_nei, c_nes, c_lt, c_le, c_gt, c_ge, c_is, c_isn, c_isb, c_isnb, isB, c_in, x_lst, x_tup, x_scr, it_lst, it_tup, it_scr, Bool.not_true, Bool.not_false, id_eq, blsOf, intsOf, strsOf, and_self, true_and, and_true, Nat.reduceMul, Nat.reducePow, Nat.reduceLeDiff, Int.reduceLT, Int.reduceLE, Int.reduceNeg, Int.reducePow, Int.reduceToNat, Int.reduceMul, Int.reduceAdd, Int.reduceSub, List.flatten_cons, List.flatten_nil, List.append_nil, line_nil, line_n, decide_true, decide_false, plainB]) rfl h14
  have g8 := is_hardware 6 h
  have g9 := is_boot 6 h
  refine ⟨.bl (plainB v), ?_⟩
  have s1 : run φ b7_1 [a0, a1, a2, a3, a4, a5, a6, a7, a8, a9, a10, a11, a12, .dat v, .dat (.bl (plainB v)), a15, a16, a17] = .next [a0, a1, a2, a3, a4, a5, a6, a7, a8, a9, a10, a11, a12, .dat v, .dat (.bl (plainB v)), a15, a16, a17] := by
    refine iff_no ?_
    cases v with
    | int i =>
      unfold hwB at g8 g9
      by_cases q1 : 1 ≤ i
      · simp only [q1, decide_true, Bool.true_and] at g8 g9
        simp only [runs_nil, runs_cons, run_asg, run_asgT, run_par, run_aug, run_app, run_seti, run_expr, run_iff, run_whl, run_fr, run_ret, run_retN, run_pass, run_brk, run_cont, ev_var, ev_cst, ev_tup, ev_lst, ev_bin, ev_neg, ev_cmp, ev_cmp2, ev_and, ev_or, ev_not, ev_ife, ev_ix, ev_sl, ev_call, ev_bi, ev_isi, ev_mt1, ev_lc, ev_ali, ev_mkT, ev_callT, run_tape, run_mpar, evM_nil, evM_cons, thaw_d, thaw_fr, thaw_pl, asgs, run_gset, run_gpop, glL, putG, setG, fin_next, fin_ret, fin_exc, fin_any, seq_any, evs_nil, evs_cons, evL_nil, evL_cons, evG_nil, evG_cons, evT_yes, evT_not, evT_and, evT_or, evT_ife, evT_val, evO_no, evO_so, evI_ex, evI_rng1, evI_rng2, evI_zip, evI_enm, evI_rng3, zip_tup, zip_lst, tru_bl, tru_int, R.bind_ok, FR.of_ok, seq_next, seq_ret, seq_brk, seq_cont, seq_exc, seq_ite, of_some, of_none, get_d, get_fr, get_pl, cont_dat, cont_own, cont_bor, cont_lck, frz_d, frz_fr, asg_d, asg_fr, argF, argT, gets_nil, gets_cons, ags_nil, ags_cons, ag_d, lents_d, lents_pl, lents_nil, backs_nil, backs_d, backs_pl, backW, lock_d, lock_fr, lock_pl, setW, tgD, tgsD, normW, finA, List.getElem?_cons_zero, List.getElem?_cons_succ, List.set_cons_zero, List.set_cons_succ, Option.bind_some, Option.bind_none, Option.map_some, Option.map_none, List.map_cons, List.map_nil, List.replicate, List.cons_append, List.nil_append, Bool.and_true, Bool.and_self, if_true, if_false, Bool.false_eq_true, reduceCtorEq, List.length_cons, List.length_nil, Nat.reduceAdd, Nat.reduceSub, List.all_cons, List.all_nil, List.getD_cons_zero, List.getD_cons_succ, plainVs, backV, wipeW, biD, len_lst, len_tup, len_scr, tupleD, listD, allD, intD, absD, isiD, isiO_non, isiO_bl, isiO_int, isiO_str, isiO_tup, isiO_lst, isiO_scr, len_gl, x_gl, isN, b_add, b_sub, b_mulr, b_mull, b_fdiv, b_mod, b_pow, b_shl, b_shr, b_band, b_bor, b_bxor, b_addt, b_addl, b_repl, c_eqi, c_eqs, c_eqb, c_nei, c_nes, c_lt, c_le, c_gt, c_ge, c_is, c_isn, c_isb, c_isnb, isB, c_in, x_lst, x_tup, x_scr, it_lst, it_tup, it_scr, Bool.not_true, Bool.not_false, id_eq, blsOf, intsOf, strsOf, and_self, true_and, and_true, Nat.reduceMul, Nat.reducePow, Nat.reduceLeDiff, Int.reduceLT, Int.reduceLE, Int.reduceNeg, Int.reducePow, Int.reduceToNat, Int.reduceMul, Int.reduceAdd, Int.reduceSub, List.flatten_cons, List.flatten_nil, List.append_nil, line_nil, line_n, decide_true, decide_false, plainB, callG_1 g8, callG_1 g9, q1, c_neb, c_nebl]
      · simp only [q1, decide_false, Bool.false_and] at g8 g9
        simp only [runs_nil, runs_cons, run_asg, run_asgT, run_par, run_aug, run_app, run_seti, run_expr, run_iff, run_whl, run_fr, run_ret, run_retN, run_pass, run_brk, run_cont, ev_var, ev_cst, ev_tup, ev_lst, ev_bin, ev_neg, ev_cmp, ev_cmp2, ev_and, ev_or, ev_not, ev_ife, ev_ix, ev_sl, ev_call, ev_bi, ev_isi, ev_mt1, ev_lc, ev_ali, ev_mkT, ev_callT, run_tape, run_mpar, evM_nil, evM_cons, thaw_d, thaw_fr, thaw_pl, asgs, run_gset, run_gpop, glL, putG, setG, fin_next, fin_ret, fin_exc, fin_any, seq_any, evs_nil, evs_cons, evL_nil, evL_cons, evG_nil, evG_cons, evT_yes, evT_not, evT_and, evT_or, evT_ife, evT_val, evO_no, evO_so, evI_ex, evI_rng1, evI_rng2, evI_zip, evI_enm, evI_rng3, zip_tup, zip_lst, tru_bl, tru_int, R.bind_ok, FR.of_ok, seq_next, seq_ret, seq_brk, seq_cont, seq_exc, seq_ite, of_some, of_none, get_d, get_fr, get_pl, cont_dat, cont_own, cont_bor, cont_lck, frz_d, frz_fr, asg_d, asg_fr, argF, argT, gets_nil, gets_cons, ags_nil, ags_cons, ag_d, lents_d, lents_pl, lents_nil, backs_nil, backs_d, backs_pl, backW, lock_d, lock_fr, lock_pl, setW, tgD, tgsD, normW, finA, List.getElem?_cons_zero, List.getElem?_cons_succ, List.set_cons_zero, List.set_cons_succ, Option.bind_some, Option.bind_none, Option.map_some, Option.map_none, List.map_cons, List.map_nil, List.replicate, List.cons_append, List.nil_append, Bool.and_true, Bool.and_self, if_true, if_false, Bool.false_eq_true, reduceCtorEq, List.length_cons, List.length_nil, Nat.reduceAdd, Nat.reduceSub, List.all_cons, List.all_nil, List.getD_cons_zero, List.getD_cons_succ, plainVs, backV, wipeW, biD, len_lst, len_tup, len_scr, tupleD, listD, allD, intD, absD, isiD, isiO_non, isiO_bl, isiO_int, isiO_str, isiO_tup, isiO_lst, isiO_scr, len_gl, x_gl, isN, b_add, b_sub, b_mulr, b_mull, b_fdiv, b_mod, b_pow, b_shl, b_shr, b_band, b_bor, b_bxor, b_addt, b_addl, b_repl, c_eqi, c_eqs, c_eqb, c_nei, c_nes, c_lt, c_le, c_gt, c_ge, c_is, c_isn, c_isb, c_isnb, isB, c_in, x_lst, x_tup, x_scr, it_lst, it_tup, it_scr, Bool.not_true, Bool.not_false, id_eq, blsOf, intsOf, strsOf, and_self, true_and, and_true, Nat.reduceMul, Nat.reducePow, Nat.reduceLeDiff, Int.reduceLT, Int.reduceLE, Int.reduceNeg, Int.reducePow, Int.reduceToNat, Int.reduceMul, Int.reduceAdd, Int.reduceSub, List.flatten_cons, List.flatten_nil, List.append_nil, line_nil, line_n, decide_true, decide_false, plainB, callG_1 g8, callG_1 g9, q1, c_neb, c_nebl]
    | _ =>
      unfold hwB at g8 g9
      simp only [runs_nil, runs_cons, run_asg, run_asgT, run_par, run_aug, run_app, run_seti, run_expr, run_iff, run_whl, run_fr, run_ret, run_retN, run_pass, run_brk, run_cont, ev_var, ev_cst, ev_tup, ev_lst, ev_bin, ev_neg, ev_cmp, ev_cmp2, ev_and, ev_or, ev_not, ev_ife, ev_ix, ev_sl, ev_call, ev_bi, ev_isi, ev_mt1, ev_lc, ev_ali, ev_mkT, ev_callT, run_tape, run_mpar, evM_nil, evM_cons, thaw_d, thaw_fr, thaw_pl, asgs, run_gset, run_gpop, glL, putG, setG, fin_next, fin_ret, fin_exc, fin_any, seq_any, evs_nil, evs_cons, evL_nil, evL_cons, evG_nil, evG_cons, evT_yes, evT_not, evT_and, evT_or, evT_ife, evT_val, evO_no, evO_so, evI_ex, evI_rng1, evI_rng2, evI_zip, evI_enm, evI_rng3, zip_tup, zip_lst, tru_bl, tru_int, R.bind_ok, FR.of_ok, seq_next, seq_ret, seq_brk, seq_cont, seq_exc, seq_ite, of_some, of_none, get_d, get_fr, get_pl, cont_dat, cont_own, cont_bor, cont_lck, frz_d, frz_fr, asg_d, asg_fr, argF, argT, gets_nil, gets_cons, ags_nil, ags_cons, ag_d, lents_d, lents_pl, lents_nil, backs_nil, backs_d, backs_pl, backW, lock_d, lock_fr, lock_pl, setW, tgD, tgsD, normW, finA, List.getElem?_cons_zero, List.getElem?_cons_succ, List.set_cons_zero, List.set_cons_succ, Option.bind_some, Option.bind_none, Option.map_some, Option.map_none, List.map_cons, List.map_nil, List.replicate, List.cons_append, List.nil_append, Bool.and_true, Bool.and_self, if_true, if_false, Bool.false_eq_true, reduceCtorEq, List.length_cons, List.length_nil, Nat.reduceAdd, Nat.reduceSub, List.all_cons, List.all_nil, List.getD_cons_zero, List.getD_cons_succ, plainVs, backV, wipeW, biD, len_lst, len_tup, len_scr, tupleD, listD, allD, intD, absD, isiD, isiO_non, isiO_bl, isiO_int, isiO_str, isiO_tup, isiO_lst, isiO_scr, len_gl, x_gl, isN, b_add, b_sub, b_mulr, b_mull, b_fdiv, b_mod, b_pow, b_shl, b_shr, b_band, b_bor, b_bxor, b_addt, b_addl, b_repl, c_eqi, c_eqs, c_eqb, c_nei, c_nes, c_lt, c_le, c_gt, c_ge, c_is, c_isn, c_isb, c_isnb, isB, c_in, x_lst, x_tup, x_scr, it_lst, it_tup, it_scr, Bool.not_true, Bool.not_false, id_eq, blsOf, intsOf, strsOf, and_self, true_and, and_true, Nat.reduceMul, Nat.reducePow, Nat.reduceLeDiff, Int.reduceLT, Int.reduceLE, Int.reduceNeg, Int.reducePow, Int.reduceToNat, Int.reduceMul, Int.reduceAdd, Int.reduceSub, List.flatten_cons, List.flatten_nil, List.append_nil, line_nil, line_n, decide_true, decide_false, plainB, callG_1 g8, callG_1 g9, c_neb, c_nebl]
  unfold body7
  rw [runs_cons, s0, seq_next, runs_cons, s1, seq_next, runs_nil]
theorem plain_elt {φ : Phi} {a0 a1 a2 a3 a4 a5 a6 a7 a8 a9 a10 a12 a13 a14 a15 a16 a17 : Pv.W} {x : D} (h : Sol x) : ev φ plainE [a0, a1, a2, a3, a4, a5, a6, a7, a8, a9, a10, .dat x, a12, a13, a14, a15, a16, a17] = .ok (.d (.bl (plainB x))) [a0, a1, a2, a3, a4, a5, a6, a7, a8, a9, a10, .dat x, a12, a13, a14, a15, a16, a17] := by
  unfold plainE
  cases x with
  | adr b => exact not_adr h
  | gl b ds => exact not_gl h
  | dic x => simp only [runs_nil, runs_cons, run_asg, run_asgT, run_par, run_aug, run_app, run_seti, run_expr, run_iff, run_whl, run_fr, run_ret, run_retN, run_pass, run_brk, run_cont, ev_var, ev_cst, ev_tup, ev_lst, ev_bin, ev_neg, ev_cmp, ev_cmp2, ev_and, ev_or, ev_not, ev_ife, ev_ix, ev_sl, ev_call, ev_bi, ev_isi, ev_mt1, ev_lc, ev_ali, ev_mkT, ev_callT, run_tape, run_mpar, evM_nil, evM_cons, thaw_d, thaw_fr, thaw_pl, asgs, run_gset, run_gpop, glL, putG, setG, fin_next, fin_ret, fin_exc, fin_any, seq_any, evs_nil, evs_cons, evL_nil, evL_cons, evG_nil, evG_cons, evT_yes, evT_not, evT_and, evT_or, evT_ife, evT_val, evO_no, evO_so, evI_ex, evI_rng1, evI_rng2, evI_zip, evI_enm, evI_rng3, zip_tup, zip_lst, tru_bl, tru_int, R.bind_ok, FR.of_ok, seq_next, seq_ret, seq_brk, seq_cont, seq_exc, seq_ite, of_some, of_none, get_d, get_fr, get_pl, cont_dat, cont_own, cont_bor, cont_lck, frz_d, frz_fr, asg_d, asg_fr, argF, argT, gets_nil, gets_cons, ags_nil, ags_cons, ag_d, lents_d, lents_pl, lents_nil, backs_nil, backs_d, backs_pl, backW, lock_d, lock_fr, lock_pl, setW, tgD, tgsD, normW, finA, List.getElem?_cons_zero, List.getElem?_cons_succ, List.set_cons_zero, List.set_cons_succ, Option.bind_some, Option.bind_none, Option.map_some, Option.map_none, List.map_cons, List.map_nil, List.replicate, List.cons_append, List.nil_append, Bool.and_true, Bool.and_self, if_true, if_false, Bool.false_eq_true, reduceCtorEq, List.length_cons, List.length_nil, Nat.reduceAdd, Nat.reduceSub, List.all_cons, List.all_nil, List.getD_cons_zero, List.getD_cons_succ, plainVs, backV, wipeW, biD, len_lst, len_tup, len_scr, tupleD, listD, allD, intD, absD, isiD, isiO_non, isiO_bl, isiO_int, isiO_str, isiO_tup, isiO_lst, isiO_scr, len_gl, x_gl, isN, b_add, b_sub, b_mulr, b_mull, b_fdiv, b_mod, b_pow, b_shl, b_shr, b_band, b_bor, b_bxor, b_addt, b_addl, b_repl, c_eqi, c_eqs, c_eqb, c_nei, c_nes, c_lt, c_le, c_gt, c_ge, c_is, c_isn, c_isb, c_isnb, isB, c_in, x_lst, x_tup, x_scr, it_lst, it_tup, it_scr, Bool.not_true, Bool.not_false, id_eq, blsOf, intsOf, strsOf, and_self, true_and, and_true, Nat.reduceMul, Nat.reducePow, Nat.reduceLeDiff, Int.reduceLT, Int.reduceLE, Int.reduceNeg, Int.reducePow, Int.reduceToNat, Int.reduceMul, Int.reduceAdd, Int.reduceSub, List.flatten_cons, List.flatten_nil, List.append_nil, line_nil, line_n, decide_true, decide_false, plainB, h 0]
  | _ => simp only [runs_nil, runs_cons, run_asg, run_asgT, run_par, run_aug, run_app, run_seti, run_expr, run_iff, run_whl, run_fr, run_ret, run_retN, run_pass, run_brk, run_cont, ev_var, ev_cst, ev_tup, ev_lst, ev_bin, ev_neg, ev_cmp, ev_cmp2, ev_and, ev_or, ev_not, ev_ife, ev_ix, ev_sl, ev_call, ev_bi, ev_isi, ev_mt1, ev_lc, ev_ali, ev_mkT, ev_callT, run_tape, run_mpar, evM_nil, evM_cons, thaw_d, thaw_fr, thaw_pl, asgs, run_gset, run_gpop, glL, putG, setG, fin_next, fin_ret, fin_exc, fin_any, seq_any, evs_nil, evs_cons, evL_nil, evL_cons, evG_nil, evG_cons, evT_yes, evT_not, evT_and, evT_or, evT_ife, evT_val, evO_no, evO_so, evI_ex, evI_rng1, evI_rng2, evI_zip, evI_enm, evI_rng3, zip_tup, zip_lst, tru_bl, tru_int, R.bind_ok, FR.of_ok, seq_next, seq_ret, seq_brk, seq_cont, seq_exc, seq_ite, of_some, of_none, get_d, get_fr, get_pl, cont_dat, cont_own, cont_bor, cont_lck, frz_d, frz_fr, asg_d, asg_fr, argF, argT, gets_nil, gets_cons, ags_nil, ags_cons, ag_d, lents_d, lents_pl, lents_nil, backs_nil, backs_d, backs_pl, backW, lock_d, lock_fr, lock_pl, setW, tgD, tgsD, normW, finA, List.getElem?_cons_zero, List.getElem?_cons_succ, List.set_cons_zero, List.set_cons_succ, Option.bind_some, Option.bind_none, Option.map_some, Option.map_none, List.map_cons, List.map_nil, List.replicate, List.cons_append, List.nil_append, Bool.and_true, Bool.and_self, if_true, if_false, Bool.false_eq_true, reduceCtorEq, List.length_cons, List.length_nil, Nat.reduceAdd, Nat.reduceSub, List.all_cons, List.all_nil, List.getD_cons_zero, List.getD_cons_succ, plainVs, backV, wipeW, biD, len_lst, len_tup, len_scr, tupleD, listD, allD, intD, absD, isiD, isiO_non, isiO_bl, isiO_int, isiO_str, isiO_tup, isiO_lst, isiO_scr, len_gl, x_gl, isN, b_add, b_sub, b_mulr, b_mull, b_fdiv, b_mod, b_pow, b_shl, b_shr, b_band, b_bor, b_bxor, b_addt, b_addl, b_repl, c_eqi, c_eqs, c_eqb, c_nei, c_nes, c_lt, c_le, c_gt, c_ge, c_is, c_isn, c_isb, c_isnb, isB, c_in, x_lst, x_tup, x_scr, it_lst, it_tup, it_scr, Bool.not_true, Bool.not_false, id_eq, blsOf, intsOf, strsOf, and_self, true_and, and_true, Nat.reduceMul, Nat.reducePow, Nat.reduceLeDiff, Int.reduceLT, Int.reduceLE, Int.reduceNeg, Int.reducePow, Int.reduceToNat, Int.reduceMul, Int.reduceAdd, Int.reduceSub, List.flatten_cons, List.flatten_nil, List.append_nil, line_nil, line_n, decide_true, decide_false, plainB]
theorem good_ev {a0 a1 a2 a3 a4 a5 a6 a7 a8 a9 a10 w11 a12 a13 a14 a16 a17 : Pv.W} {x y : D} (h11 : Dull w11) (hx : Sol x) (hy : Sol y) :
    ev φ (.and (.bi 3 (.cons false (.lc plainE (.name 11) (.ex (.var 15)) .yes [11]) .nil)) (.and (.cmp2 .LtE .LtE (.cst (.int 1)) (.ix (.var 15) (.cst (.int 0))) (.cst (.int 30))) (.cmp2 .LtE .LtE (.cst (.int 1)) (.ix (.var 15) (.cst (.int 1))) (.cst (.int 250))))) [a0, a1, a2, a3, a4, a5, a6, a7, a8, a9, a10, w11, a12, a13, a14, .dat (.tup [x, y]), a16, a17] =
      .ok (.d (.bl (addrB (.tup [x, y])))) [a0, a1, a2, a3, a4, a5, a6, a7, a8, a9, a10, w11, a12, a13, a14, .dat (.tup [x, y]), a16, a17] := by
  have lc : lcRun (ev φ plainE) (.name 11) (evT φ .yes) [11] (some ([a0, a1, a2, a3, a4, a5, a6, a7, a8, a9, a10, w11, a12, a13, a14, .dat (.tup [x, y]), a16, a17], id)) [x, y] = .ok (.fr (.lst [.bl (plainB x), .bl (plainB y)])) [a0, a1, a2, a3, a4, a5, a6, a7, a8, a9, a10, w11, a12, a13, a14, .dat (.tup [x, y]), a16, a17] := by
    have pv : plainVs [a0, a1, a2, a3, a4, a5, a6, a7, a8, a9, a10, w11, a12, a13, a14, .dat (.tup [x, y]), a16, a17] [11] = true := by rcases h11 with rfl | ⟨d, rfl⟩ <;> rfl
    have lg : lcGo (ev φ plainE) (.name 11) (evT φ .yes) [11] [x, y] [a0, a1, a2, a3, a4, a5, a6, a7, a8, a9, a10, .un, a12, a13, a14, .dat (.tup [x, y]), a16, a17] [] = .ok ([x, y].map fun z => .bl (plainB z)) [a0, a1, a2, a3, a4, a5, a6, a7, a8, a9, a10, .un, a12, a13, a14, .dat (.tup [x, y]), a16, a17] :=
      lcGo_all (fun z => .bl (plainB z)) (fun z hz => by
        have hs : Sol z := by
          rcases List.mem_cons.mp hz with e | e
          · rw [e]; exact hx
          · rw [List.mem_singleton.mp e]; exact hy
        exact plain_elt hs) (fun _ => rfl) (fun _ => rfl) (by decide : 2 ≤ Line)
    exact lcRun_ok pv lg
  simp only [runs_nil, runs_cons, run_asg, run_asgT, run_par, run_aug, run_app, run_seti, run_expr, run_iff, run_whl, run_fr, run_ret, run_retN, run_pass, run_brk, run_cont, ev_var, ev_cst, ev_tup, ev_lst, ev_bin, ev_neg, ev_cmp, ev_cmp2, ev_and, ev_or, ev_not, ev_ife, ev_ix, ev_sl, ev_call, ev_bi, ev_isi, ev_mt1, ev_lc, ev_ali, ev_mkT, ev_callT, run_tape, run_mpar, evM_nil, evM_cons, thaw_d, thaw_fr, thaw_pl, asgs, run_gset, run_gpop, glL, putG, setG, fin_next, fin_ret, fin_exc, fin_any, seq_any, evs_nil, evs_cons, evL_nil, evL_cons, evG_nil, evG_cons, evT_yes, evT_not, evT_and, evT_or, evT_ife, evT_val, evO_no, evO_so, evI_ex, evI_rng1, evI_rng2, evI_zip, evI_enm, evI_rng3, zip_tup, zip_lst, tru_bl, tru_int, R.bind_ok, FR.of_ok, seq_next, seq_ret, seq_brk, seq_cont, seq_exc, seq_ite, of_some, of_none, get_d, get_fr, get_pl, cont_dat, cont_own, cont_bor, cont_lck, frz_d, frz_fr, asg_d, asg_fr, argF, argT, gets_nil, gets_cons, ags_nil, ags_cons, ag_d, lents_d, lents_pl, lents_nil, backs_nil, backs_d, backs_pl, backW, lock_d, lock_fr, lock_pl, setW, tgD, tgsD, normW, finA, List.getElem?_cons_zero, List.getElem?_cons_succ, List.set_cons_zero, List.set_cons_succ, Option.bind_some, Option.bind_none, Option.map_some, Option.map_none, List.map_cons, List.map_nil, List.replicate, List.cons_append, List.nil_append, Bool.and_true, Bool.and_self, if_true, if_false, Bool.false_eq_true, reduceCtorEq, List.length_cons, List.length_nil, Nat.reduceAdd, Nat.reduceSub, List.all_cons, List.all_nil, List.getD_cons_zero, List.getD_cons_succ, plainVs, backV, wipeW, biD, len_lst, len_tup, len_scr, tupleD, listD, allD, intD, absD, isiD, isiO_non, isiO_bl, isiO_int, isiO_str, isiO_tup, isiO_lst, isiO_scr, len_gl, x_gl, isN, b_add, b_sub, b_mulr, b_mull, b_fdiv, b_mod, b_pow, b_shl, b_shr, b_band, b_bor, b_bxor, b_addt, b_addl, b_repl, c_eqi, c_eqs, c_eqb, c_nei, c_nes, c_lt, c_le, c_gt, c_ge, c_is, c_isn, c_isb, c_isnb, isB, c_in, x_lst, x_tup, x_scr, it_lst, it_tup, it_scr, Bool.not_true, Bool.not_false, id_eq, blsOf, intsOf, strsOf, and_self, true_and, and_true, Nat.reduceMul, Nat.reducePow, Nat.reduceLeDiff, Int.reduceLT, Int.reduceLE, Int.reduceNeg, Int.reducePow, Int.reduceToNat, Int.reduceMul, Int.reduceAdd, Int.reduceSub, List.flatten_cons, List.flatten_nil, List.append_nil, line_nil, line_n, decide_true, decide_false]
  rw [lc]
  cases x with
  | int a =>
    cases y with
    | int c =>
      unfold addrB
      by_cases q1 : 1 ≤ a
      · by_cases q2 : a ≤ 30
        · by_cases q3 : 1 ≤ c
          · simp only [runs_nil, runs_cons, run_asg, run_asgT, run_par, run_aug, run_app, run_seti, run_expr, run_iff, run_whl, run_fr, run_ret, run_retN, run_pass, run_brk, run_cont, ev_var, ev_cst, ev_tup, ev_lst, ev_bin, ev_neg, ev_cmp, ev_cmp2, ev_and, ev_or, ev_not, ev_ife, ev_ix, ev_sl, ev_call, ev_bi, ev_isi, ev_mt1, ev_lc, ev_ali, ev_mkT, ev_callT, run_tape, run_mpar, evM_nil, evM_cons, thaw_d, thaw_fr, thaw_pl, asgs, run_gset, run_gpop, glL, putG, setG, fin_next, fin_ret, fin_exc, fin_any, seq_any, evs_nil, evs_cons, evL_nil, evL_cons, evG_nil, evG_cons, evT_yes, evT_not, evT_and, evT_or, evT_ife, evT_val, evO_no, evO_so, evI_ex, evI_rng1, evI_rng2, evI_zip, evI_enm, evI_rng3, zip_tup, zip_lst, tru_bl, tru_int, R.bind_ok, FR.of_ok, seq_next, seq_ret, seq_brk, seq_cont, seq_exc, seq_ite, of_some, of_none, get_d, get_fr, get_pl, cont_dat, cont_own, cont_bor, cont_lck, frz_d, frz_fr, asg_d, asg_fr, argF, argT, gets_nil, gets_cons, ags_nil, ags_cons, ag_d, lents_d, lents_pl, lents_nil, backs_nil, backs_d, backs_pl, backW, lock_d, lock_fr, lock_pl, setW, tgD, tgsD, normW, finA, List.getElem?_cons_zero, List.getElem?_cons_succ, List.set_cons_zero, List.set_cons_succ, Option.bind_some, Option.bind_none, Option.map_some, Option.map_none, List.map_cons, List.map_nil, List.replicate, List.cons_append, List.nil_append, Bool.and_true, Bool.and_self, if_true, if_false, Bool.false_eq_true, reduceCtorEq, List.length_cons, List.length_nil, Nat.reduceAdd, Nat.reduceSub, List.all_cons, List.all_nil, List.getD_cons_zero, List.getD_cons_succ, plainVs, backV, wipeW, biD, len_lst, len_tup, len_scr, tupleD, listD, allD, intD, absD, isiD, isiO_non, isiO_bl, isiO_int, isiO_str, isiO_tup, isiO_lst, isiO_scr, len_gl, x_gl, isN, b_add, b_sub, b_mulr, b_mull, b_fdiv, b_mod, b_pow, b_shl, b_shr, b_band, b_bor, b_bxor, b_addt, b_addl, b_repl, c_eqi, c_eqs, c_eqb, c_nei, c_nes, c_lt, c_le, c_gt, c_ge, c_is, c_isn, c_isb, c_isnb, isB, c_in, x_lst, x_tup, x_scr, it_lst, it_tup, it_scr, Bool.not_true, Bool.not_false, id_eq, blsOf, intsOf, strsOf, and_self, true_and, and_true, Nat.reduceMul, Nat.reducePow, Nat.reduceLeDiff, Int.reduceLT, Int.reduceLE, Int.reduceNeg, Int.reducePow, Int.reduceToNat, Int.reduceMul, Int.reduceAdd, Int.reduceSub, List.flatten_cons, List.flatten_nil, List.append_nil, line_nil, line_n, decide_true, decide_false, plainB, at_0, at2_1, q1, q2, q3, Bool.true_and, Bool.false_and]
          · simp only [runs_nil, runs_cons, run_asg, run_asgT, run_par, run_aug, run_app, run_seti, run_expr, run_iff, run_whl, run_fr, run_ret, run_retN, run_pass, run_brk, run_cont, ev_var, ev_cst, ev_tup, ev_lst, ev_bin, ev_neg, ev_cmp, ev_cmp2, ev_and, ev_or, ev_not, ev_ife, ev_ix, ev_sl, ev_call, ev_bi, ev_isi, ev_mt1, ev_lc, ev_ali, ev_mkT, ev_callT, run_tape, run_mpar, evM_nil, evM_cons, thaw_d, thaw_fr, thaw_pl, asgs, run_gset, run_gpop, glL, putG, setG, fin_next, fin_ret, fin_exc, fin_any, seq_any, evs_nil, evs_cons, evL_nil, evL_cons, evG_nil, evG_cons, evT_yes, evT_not, evT_and, evT_or, evT_ife, evT_val, evO_no, evO_so, evI_ex, evI_rng1, evI_rng2, evI_zip, evI_enm, evI_rng3, zip_tup, zip_lst, tru_bl, tru_int, R.bind_ok, FR.of_ok, seq_next, seq_ret, seq_brk, seq_cont, seq_exc, seq_ite, of_some, of_none, get_d, get_fr, get_pl, cont_dat, cont_own, cont_bor, cont_lck, frz_d, frz_fr, asg_d, asg_fr, argF, argT, gets_nil, gets_cons, ags_nil, ags_cons, ag_d, lents_d, lents_pl, lents_nil, backs_nil, backs_d, backs_pl, backW, lock_d, lock_fr, lock_pl, setW, tgD, tgsD, normW, finA, List.getElem?_cons_zero, List.getElem?_cons_succ, List.set_cons_zero, List.set_cons_succ, Option.bind_some, Option.bind_none, Option.map_some, Option.map_none, List.map_cons, List.map_nil, List.replicate, List.cons_append, List.nil_append, Bool.and_true, Bool.and_self, if_true, if_false, Bool.false_eq_true, reduceCtorEq, List.length_cons, List.length_nil, Nat.reduceAdd, Nat.reduceSub, List.all_cons, List.all_nil, List.getD_cons_zero, List.getD_cons_succ, plainVs, backV, wipeW, biD, len_lst, len_tup, len_scr, tupleD, listD, allD, intD, absD, isiD, isiO_non, isiO_bl, isiO_int, isiO_str, isiO_tup, isiO_lst, isiO_scr, len_gl, x_gl, isN, b_add, b_sub, b_mulr, b_mull, b_fdiv, b_mod, b_pow, b_shl, b_shr, b_band, b_bor, b_bxor, b_addt, b_addl, b_repl, c_eqi, c_eqs, c_eqb, c_nei, c_nes, c_lt, c_le, c_gt, c_ge, c_is, c_isn, c_isb, c_isnb, isB, c_in, x_lst, x_tup, x_scr, it_lst, it_tup, it_scr, Bool.not_true, Bool.not_false, id_eq, blsOf, intsOf, strsOf, and_self, true_and, and_true, Nat.reduceMul, Nat.reducePow, Nat.reduceLeDiff, Int.reduceLT, Int.reduceLE, Int.reduceNeg, Int.reducePow, Int.reduceToNat, Int.reduceMul, Int.reduceAdd, Int.reduceSub, List.flatten_cons, List.flatten_nil, List.append_nil, line_nil, line_n, decide_true, decide_false, plainB, at_0, at2_1, q1, q2, q3, Bool.true_and, Bool.false_and]
        · simp only [runs_nil, runs_cons, run_asg, run_asgT, run_par, run_aug, run_app, run_seti, run_expr, run_iff, run_whl, run_fr, run_ret, run_retN, run_pass, run_brk, run_cont, ev_var, ev_cst, ev_tup, ev_lst, ev_bin, ev_neg, ev_cmp, ev_cmp2, ev_and, ev_or, ev_not, ev_ife, ev_ix, ev_sl, ev_call, ev_bi, ev_isi, ev_mt1, ev_lc, ev_ali, ev_mkT, ev_callT, run_tape, run_mpar, evM_nil, evM_cons, thaw_d, thaw_fr, thaw_pl, asgs, run_gset, run_gpop, glL, putG, setG, fin_next, fin_ret, fin_exc, fin_any, seq_any, evs_nil, evs_cons, evL_nil, evL_cons, evG_nil, evG_cons, evT_yes, evT_not, evT_and, evT_or, evT_ife, evT_val, evO_no, evO_so, evI_ex, evI_rng1, evI_rng2, evI_zip, evI_enm, evI_rng3, zip_tup, zip_lst, tru_bl, tru_int, R.bind_ok, FR.of_ok, seq_next, seq_ret, seq_brk, seq_cont, seq_exc, seq_ite, of_some, of_none, get_d, get_fr, get_pl, cont_dat, cont_own, cont_bor, cont_lck, frz_d, frz_fr, asg_d, asg_fr, argF, argT, gets_nil, gets_cons, ags_nil, ags_cons, ag_d, lents_d, lents_pl, lents_nil, backs_nil, backs_d, backs_pl, backW, lock_d, lock_fr, lock_pl, setW, tgD, tgsD, normW, finA, List.getElem?_cons_zero, List.getElem?_cons_succ, List.set_cons_zero, List.set_cons_succ, Option.bind_some, Option.bind_none, Option.map_some, Option.map_none, List.map_cons, List.map_nil, List.replicate, List.cons_append, List.nil_append, Bool.and_true, Bool.and_self, if_true, if_false, Bool.false_eq_true, reduceCtorEq, List.length_cons, List.length_nil, Nat.reduceAdd, Nat.reduceSub, List.all_cons, List.all_nil, List.getD_cons_zero, List.getD_cons_succ, plainVs, backV, wipeW, biD, len_lst, len_tup, len_scr, tupleD, listD, allD, intD, absD, isiD, isiO_non, isiO_bl, isiO_int, isiO_str, isiO_tup, isiO_lst, isiO_scr, len_gl, x_gl, isN, b_add, b_sub, b_mulr, b_mull, b_fdiv, b_mod, b_pow, b_shl, b_shr, b_band, b_bor, b_bxor, b_addt, b_addl, b_repl, c_eqi, c_eqs, c_eqb, c_nei, c_nes, c_lt, c_le, c_gt, c_ge, c_is, c_isn, c_isb, c_isnb, isB, c_in, x_lst, x_tup, x_scr, it_lst, it_tup, it_scr, Bool.not_true, Bool.not_false, id_eq, blsOf, intsOf, strsOf, and_self, true_and, and_true, Nat.reduceMul, Nat.reducePow, Nat.reduceLeDiff, Int.reduceLT, Int.reduceLE, Int.reduceNeg, Int.reducePow, Int.reduceToNat, Int.reduceMul, Int.reduceAdd, Int.reduceSub, List.flatten_cons, List.flatten_nil, List.append_nil, line_nil, line_n, decide_true, decide_false, plainB, at_0, at2_1, q1, q2, Bool.true_and, Bool.false_and]
      · simp only [runs_nil, runs_cons, run_asg, run_asgT, run_par, run_aug, run_app, run_seti, run_expr, run_iff, run_whl, run_fr, run_ret, run_retN, run_pass, run_brk, run_cont, ev_var, ev_cst, ev_tup, ev_lst, ev_bin, ev_neg, ev_cmp, ev_cmp2, ev_and, ev_or, ev_not, ev_ife, ev_ix, ev_sl, ev_call, ev_bi, ev_isi, ev_mt1, ev_lc, ev_ali, ev_mkT, ev_callT, run_tape, run_mpar, evM_nil, evM_cons, thaw_d, thaw_fr, thaw_pl, asgs, run_gset, run_gpop, glL, putG, setG, fin_next, fin_ret, fin_exc, fin_any, seq_any, evs_nil, evs_cons, evL_nil, evL_cons, evG_nil, evG_cons, evT_yes, evT_not, evT_and, evT_or, evT_ife, evT_val, evO_no, evO_so, evI_ex, evI_rng1, evI_rng2, evI_zip, evI_enm, evI_rng3, zip_tup, zip_lst, tru_bl, tru_int, R.bind_ok, FR.of_ok, seq_next, seq_ret, seq_brk, seq_cont, seq_exc, seq_ite, of_some, of_none, get_d, get_fr, get_pl, cont_dat, cont_own, cont_bor, cont_lck, frz_d, frz_fr, asg_d, asg_fr, argF, argT, gets_nil, gets_cons, ags_nil, ags_cons, ag_d, lents_d, lents_pl, lents_nil, backs_nil, backs_d, backs_pl, backW, lock_d, lock_fr, lock_pl, setW, tgD, tgsD, normW, finA, List.getElem?_cons_zero, List.getElem?_cons_succ, List.set_cons_zero, List.set_cons_succ, Option.bind_some, Option.bind_none, Option.map_some, Option.map_none, List.map_cons, List.map_nil, List.replicate, List.cons_append, List.nil_append, Bool.and_true, Bool.and_self, if_true, if_false, Bool.false_eq_true, reduceCtorEq, List.length_cons, List.length_nil, Nat.reduceAdd, Nat.reduceSub, List.all_cons, List.all_nil, List.getD_cons_zero, List.getD_cons_succ, plainVs, backV, wipeW, biD, len_lst, len_tup, len_scr, tupleD, listD, allD, intD, absD, isiD, isiO_non, isiO_bl, isiO_int, isiO_str, isiO_tup, isiO_lst, isiO_scr, len_gl, x_gl, isN, b_add, b_sub, b_mulr, b_mull, b_fdiv, b_mod, b_pow, b_shl, b_shr, b_band, b_bor, b_bxor, b_addt, b_addl, b_repl, c_eqi, c_eqs, c_eqb, c_nei, c_nes, c_lt, c_le, c_gt, c_ge, c_is, c_isn, c_isb, c_isnb, isB, c_in, x_lst, x_tup, x_scr, it_lst, it_tup, it_scr, Bool.not_true, Bool.not_false, id_eq, blsOf, intsOf, strsOf, and_self, true_and, and_true, Nat.reduceMul, Nat.reducePow, Nat.reduceLeDiff, Int.reduceLT, Int.reduceLE, Int.reduceNeg, Int.reducePow, Int.reduceToNat, Int.reduceMul, Int.reduceAdd, Int.reduceSub, List.flatten_cons, List.flatten_nil, List.append_nil, line_nil, line_n, decide_true, decide_false, plainB, at_0, at2_1, q1, Bool.true_and, Bool.false_and]
    | _ => simp only [runs_nil, runs_cons, run_asg, run_asgT, run_par, run_aug, run_app, run_seti, run_expr, run_iff, run_whl, run_fr, run_ret, run_retN, run_pass, run_brk, run_cont, ev_var, ev_cst, ev_tup, ev_lst, ev_bin, ev_neg, ev_cmp, ev_cmp2, ev_and, ev_or, ev_not, ev_ife, ev_ix, ev_sl, ev_call, ev_bi, ev_isi, ev_mt1, ev_lc, ev_ali, ev_mkT, ev_callT, run_tape, run_mpar, evM_nil, evM_cons, thaw_d, thaw_fr, thaw_pl, asgs, run_gset, run_gpop, glL, putG, setG, fin_next, fin_ret, fin_exc, fin_any, seq_any, evs_nil, evs_cons, evL_nil, evL_cons, evG_nil, evG_cons, evT_yes, evT_not, evT_and, evT_or, evT_ife, evT_val, evO_no, evO_so, evI_ex, evI_rng1, evI_rng2, evI_zip, evI_enm, evI_rng3, zip_tup, zip_lst, tru_bl, tru_int, R.bind_ok, FR.of_ok, seq_next, seq_ret, seq_brk, seq_cont, seq_exc, seq_ite, of_some, of_none, get_d, get_fr, get_pl, cont_dat, cont_own, cont_bor, cont_lck, frz_d, frz_fr, asg_d, asg_fr, argF, argT, gets_nil, gets_cons, ags_nil, ags_cons, ag_d, lents_d, lents_pl, lents_nil, backs_nil, backs_d, backs_pl, backW, lock_d, lock_fr, lock_pl, setW, tgD, tgsD, normW, finA, List.getElem?_cons_zero, List.getElem?_cons_succ, List.set_cons_zero, List.set_cons_succ, Option.bind_some, Option.bind_none, Option.map_some, Option.map_none, List.map_cons, List.map_nil, List.replicate, List.cons_append, List.nil_append, Bool.and_true, Bool.and_self, if_true, if_false, Bool.false_eq_true, reduceCtorEq, List.length_cons, List.length_nil, Nat.reduceAdd, Nat.reduceSub, List.all_cons, List.all_nil, List.getD_cons_zero, List.getD_cons_succ, plainVs, backV, wipeW, biD, len_lst, len_tup, len_scr, tupleD, listD, allD, intD, absD, isiD, isiO_non, isiO_bl, isiO_int, isiO_str, isiO_tup, isiO_lst, isiO_scr, len_gl, x_gl, isN, b_add, b_sub, b_mulr, b_mull, b_fdiv, b_mod, b_pow, b_shl, b_shr, b_band, b_bor, b_bxor, b_addt, b_addl, b_repl, c_eqi, c_eqs, c_eqb, c_nei, c_nes, c_lt, c_le, c_gt, c_ge, c_is, c_isn, c_isb, c_isnb, isB, c_in, x_lst, x_tup, x_scr, it_lst, it_tup, it_scr, Bool.not_true, Bool.not_false, id_eq, blsOf, intsOf, strsOf, and_self, true_and, and_true, Nat.reduceMul, Nat.reducePow, Nat.reduceLeDiff, Int.reduceLT, Int.reduceLE, Int.reduceNeg, Int.reducePow, Int.reduceToNat, Int.reduceMul, Int.reduceAdd, Int.reduceSub, List.flatten_cons, List.flatten_nil, List.append_nil, line_nil, line_n, decide_true, decide_false, plainB, addrB, Bool.true_and]
  | _ => simp only [runs_nil, runs_cons, run_asg, run_asgT, run_par, run_aug, run_app, run_seti, run_expr, run_iff, run_whl, run_fr, run_ret, run_retN, run_pass, run_brk, run_cont, ev_var, ev_cst, ev_tup, ev_lst, ev_bin, ev_neg, ev_cmp, ev_cmp2, ev_and, ev_or, ev_not, ev_ife, ev_ix, ev_sl, ev_call, ev_bi, ev_isi, ev_mt1, ev_lc, ev_ali, ev_mkT, ev_callT, run_tape, run_mpar, evM_nil, evM_cons, thaw_d, thaw_fr, thaw_pl, asgs, run_gset, run_gpop, glL, putG, setG, fin_next, fin_ret, fin_exc, fin_any, seq_any, evs_nil, evs_cons, evL_nil, evL_cons, evG_nil, evG_cons, evT_yes, evT_not, evT_and, evT_or, evT_ife, evT_val, evO_no, evO_so, evI_ex, evI_rng1, evI_rng2, evI_zip, evI_enm, evI_rng3, zip_tup, zip_lst, tru_bl, tru_int, R.bind_ok, FR.of_ok, seq_next, seq_ret, seq_brk, seq_cont, seq_exc, seq_ite, of_some, of_none, get_d, get_fr, get_pl, cont_dat, cont_own, cont_bor, cont_lck, frz_d, frz_fr, asg_d, asg_fr, argF, argT, gets_nil, gets_cons, ags_nil, ags_cons, ag_d, lents_d, lents_pl, lents_nil, backs_nil, backs_d, backs_pl, backW, lock_d, lock_fr, lock_pl, setW, tgD, tgsD, normW, finA, List.getElem?_cons_zero, List.getElem?_cons_succ, List.set_cons_zero, List.set_cons_succ, Option.bind_some, Option.bind_none, Option.map_some, Option.map_none, List.map_cons, List.map_nil, List.replicate, List.cons_append, List.nil_append, Bool.and_true, Bool.and_self, if_true, if_false, Bool.false_eq_true, reduceCtorEq, List.length_cons, List.length_nil, Nat.reduceAdd, Nat.reduceSub, List.all_cons, List.all_nil, List.getD_cons_zero, List.getD_cons_succ, plainVs, backV, wipeW, biD, len_lst, len_tup, len_scr, tupleD, listD, allD, intD, absD, isiD, isiO_non, isiO_bl, isiO_int, isiO_str, isiO_tup, isiO_lst, isiO_scr, len_gl, x_gl, isN, b_add, b_sub, b_mulr, b_mull, b_fdiv, b_mod, b_pow, b_shl, b_shr, b_band, b_bor, b_bxor, b_addt, b_addl, b_repl, c_eqi, c_eqs, c_eqb, c_nei, c_nes, c_lt, c_le, c_gt, c_ge, c_is, c_isn, c_isb, c_isnb, isB, c_in, x_lst, x_tup, x_scr, it_lst, it_tup, it_scr, Bool.not_true, Bool.not_false, id_eq, blsOf, intsOf, strsOf, and_self, true_and, and_true, Nat.reduceMul, Nat.reducePow, Nat.reduceLeDiff, Int.reduceLT, Int.reduceLE, Int.reduceNeg, Int.reducePow, Int.reduceToNat, Int.reduceMul, Int.reduceAdd, Int.reduceSub, List.flatten_cons, List.flatten_nil, List.append_nil, line_nil, line_n, decide_true, decide_false, plainB, addrB, Bool.false_and]
theorem eq_pair (a b : Int) : eqDeep (.tup [.int a, .int b]) (.tup [.int a, .int b]) = some true := by
  unfold eqDeep
  rw [if_pos ⟨rfl, rfl⟩]
  congr 1
  exact PySem.SeqAt.eqv_refl _ rfl

theorem c_net (xs ys : List D) : cmpD .NotEq (.tup xs) (.tup ys) = (eqDeep (.tup xs) (.tup ys)).map (!·) := rfl
theorem leaf_int (i : Int) : Leaf (.int i) := .inr (.inr (.inl ⟨i, rfl⟩))
theorem leaf_bl (i : Bool) : Leaf (.bl i) := .inr (.inl ⟨i, rfl⟩)
theorem leaf_str (i : Str) : Leaf (.str i) := .inr (.inr (.inr ⟨i, rfl⟩))
theorem leaf_non : Leaf .non := .inl rfl
def row1 (a : Int) : List D := [.int 0, .int 1, .int 2, .int 29, .int 30, .int 31, .bl true, .non, .int a]
def row2 (a : Int) : List D := [.int 0, .int 1, .int 249, .int 250, .int 251, .bl false, .str "2", .int a]
theorem leaf_row1 (a : Int) : ∀ x ∈ row1 a, Leaf x := fa_cons (leaf_int _) (fa_cons (leaf_int _) (fa_cons (leaf_int _) (fa_cons (leaf_int _) (fa_cons (leaf_int _) (fa_cons (leaf_int _) (fa_cons (leaf_bl _) (fa_cons leaf_non (fa_cons (leaf_int _) fa_nil))))))))
theorem leaf_row2 (a : Int) : ∀ x ∈ row2 a, Leaf x := fa_cons (leaf_int _) (fa_cons (leaf_int _) (fa_cons (leaf_int _) (fa_cons (leaf_int _) (fa_cons (leaf_int _) (fa_cons (leaf_bl _) (fa_cons (leaf_str _) (fa_cons (leaf_int _) fa_nil)))))))
theorem turn8 {b : Nat} {d e : D} (t : Tp b d e) (p q : Int) (a0 a2 a3 a4 a6 a7 a8 a9 a10 a12 a13 a14 : Pv.W) {w11 w15 w16 : Pv.W} (h11 : Dull w11) (h15 : Dull w15) (h16 : Dull w16) :
    ∃ d' e' x15 x16, runs φ body8 [a0, .own d, a2, a3, a4, .dat (.tup [.int p, .int q]), a6, a7, a8, a9, a10, w11, a12, a13, a14, w15, w16, .own e] = .next [a0, .own d', a2, a3, a4, .dat (.tup [.int p, .int q]), a6, a7, a8, a9, a10, w11, a12, a13, a14, .dat x15, .dat x16, .own e'] ∧ Tp b d' e' := by
  obtain ⟨x, d1, e1, ed1, t1, hx⟩ := pickT_ok p15 p14 6 t (row := row1 p) (by decide : 0 < 9) (by decide : 9 ≤ 1000)
  obtain ⟨y, d2, e2, ed2, t2, hy⟩ := pickT_ok p15 p14 6 t1 (row := row2 q) (by decide : 0 < 8) (by decide : 8 ≤ 1000)
  have lx := leaf_row1 p x hx
  have ly := leaf_row2 q y hy
  have o1 : Ok1 (.tup [x, y]) := ok1_tup (by decide : 2 ≤ 1000) (fa_cons (sol_leaf lx) (fa_cons (sol_leaf ly) fa_nil))
  have ev0 : ev φ (.tup (.cons false (.callT 15 args8a 17) (.cons false (.callT 15 args8b 17) .nil))) [a0, .own d, a2, a3, a4, .dat (.tup [.int p, .int q]), a6, a7, a8, a9, a10, w11, a12, a13, a14, w15, w16, .own e] =
      .ok (.d (.tup [x, y])) [a0, .own d2, a2, a3, a4, .dat (.tup [.int p, .int q]), a6, a7, a8, a9, a10, w11, a12, a13, a14, w15, w16, .own e2] := by
    rw [ev_tup, evs_cons, ev_callT, show evL φ args8a [a0, .own d, a2, a3, a4, .dat (.tup [.int p, .int q]), a6, a7, a8, a9, a10, w11, a12, a13, a14, w15, w16, .own e] = .ok [.pl 1, .d (.lst (row1 p))] [a0, .own d, a2, a3, a4, .dat (.tup [.int p, .int q]), a6, a7, a8, a9, a10, w11, a12, a13, a14, w15, w16, .own e] from by kernel_rfl]
    simp only [R.bind_ok, List.cons_append, List.nil_append]
    rw [callG_to (i := 1) (g := 17) (by decide) ed1 rfl rfl]
    simp only [R.bind_ok, frz_d, List.set_cons_succ, List.set_cons_zero]
    rw [evs_cons, ev_callT, show evL φ args8b [a0, .own d1, a2, a3, a4, .dat (.tup [.int p, .int q]), a6, a7, a8, a9, a10, w11, a12, a13, a14, w15, w16, .own e1] = .ok [.pl 1, .d (.lst (row2 q))] [a0, .own d1, a2, a3, a4, .dat (.tup [.int p, .int q]), a6, a7, a8, a9, a10, w11, a12, a13, a14, w15, w16, .own e1] from by kernel_rfl]
    simp only [R.bind_ok, List.cons_append, List.nil_append]
    rw [callG_to (i := 1) (g := 17) (by decide) ed2 rfl rfl]
    simp only [R.bind_ok, frz_d, List.set_cons_succ, List.set_cons_zero, evs_nil]
    exact if_pos (by decide : 2 ≤ Line)
  have s0 : run φ b8_0 [a0, .own d, a2, a3, a4, .dat (.tup [.int p, .int q]), a6, a7, a8, a9, a10, w11, a12, a13, a14, w15, w16, .own e] = .next [a0, .own d2, a2, a3, a4, .dat (.tup [.int p, .int q]), a6, a7, a8, a9, a10, w11, a12, a13, a14, .dat (.tup [x, y]), w16, .own e2] := by
    rw [code8_0]
    exact asgX ev0 rfl h15
  have s1 : run φ b8_1 [a0, .own d2, a2, a3, a4, .dat (.tup [.int p, .int q]), a6, a7, a8, a9, a10, w11, a12, a13, a14, .dat (.tup [x, y]), w16, .own e2] = .next [a0, .own d2, a2, a3, a4, .dat (.tup [.int p, .int q]), a6, a7, a8, a9, a10, w11, a12, a13, a14, .dat (.tup [x, y]), .dat (.bl (addrB (.tup [x, y]))), .own e2] := by
    rw [code8_1]
    exact asgX (good_ev h11 (sol_leaf lx) (sol_leaf ly)) rfl h16
  have g5 := is_address 6 o1
  have g18 := law_asked 4 o1 (by simp)
  have pa : PT 2 (asked (.tup [x, y])) := by
    unfold asked
    split
    · exact pt_tup (by decide : 2 ≤ 1000) (fa_cons (pt_leaf lx) (fa_cons (pt_leaf ly) fa_nil))
    · exact pt_tup (by decide : 2 ≤ 1000) (fa_cons pt_non (fa_cons (pt_str _) fa_nil))
  have g16 := same2 pa
  have g7 := of_tup 5 (ds := [x, y]) (by decide : 2 ≤ 1000) (fa_cons (sol_leaf lx) (fa_cons (sol_leaf ly) fa_nil))
  have g7l := of_lst 5 (ds := [x, y]) (by decide : 2 ≤ 1000) (fa_cons (sol_leaf lx) (fa_cons (sol_leaf ly) fa_nil))
  have g5l := is_address 6 (ok1_lst [x, y])
  have g5t := is_address 6 (ok1_tup (ds := [x, y, .int 1]) (by decide : 3 ≤ 1000) (fa_cons (sol_leaf lx) (fa_cons (sol_leaf ly) (fa_cons (sol_int _) fa_nil))))
  rw [addr_no (ds := [x, y, .int 1]) (by simp)] at g5t
  have g5l' : callK (prg rows) 8 5 [.dat (.lst [x, y])] = .ok (.d (.bl false)) [.dat (.lst [x, y])] := g5l
  have s2 : run φ b8_2 [a0, .own d2, a2, a3, a4, .dat (.tup [.int p, .int q]), a6, a7, a8, a9, a10, w11, a12, a13, a14, .dat (.tup [x, y]), .dat (.bl (addrB (.tup [x, y]))), .own e2] = .next [a0, .own d2, a2, a3, a4, .dat (.tup [.int p, .int q]), a6, a7, a8, a9, a10, w11, a12, a13, a14, .dat (.tup [x, y]), .dat (.bl (addrB (.tup [x, y]))), .own e2] := by
    refine iff_no ?_
    unfold asked at g18 g16
    cases z : addrB (.tup [x, y]) with
    | true =>
      rw [z] at g5
      rw [z, if_pos rfl] at g18 g16
      simp only [runs_nil, runs_cons, run_asg, run_asgT, run_par, run_aug, run_app, run_seti, run_expr, run_iff, run_whl, run_fr, run_ret, run_retN, run_pass, run_brk, run_cont, ev_var, ev_cst, ev_tup, ev_lst, ev_bin, ev_neg, ev_cmp, ev_cmp2, ev_and, ev_or, ev_not, ev_ife, ev_ix, ev_sl, ev_call, ev_bi, ev_isi, ev_mt1, ev_lc, ev_ali, ev_mkT, ev_callT, run_tape, run_mpar, evM_nil, evM_cons, thaw_d, thaw_fr, thaw_pl, asgs, run_gset, run_gpop, glL, putG, setG, fin_next, fin_ret, fin_exc, fin_any, seq_any, evs_nil, evs_cons, evL_nil, evL_cons, evG_nil, evG_cons, evT_yes, evT_not, evT_and, evT_or, evT_ife, evT_val, evO_no, evO_so, evI_ex, evI_rng1, evI_rng2, evI_zip, evI_enm, evI_rng3, zip_tup, zip_lst, tru_bl, tru_int, R.bind_ok, FR.of_ok, seq_next, seq_ret, seq_brk, seq_cont, seq_exc, seq_ite, of_some, of_none, get_d, get_fr, get_pl, cont_dat, cont_own, cont_bor, cont_lck, frz_d, frz_fr, asg_d, asg_fr, argF, argT, gets_nil, gets_cons, ags_nil, ags_cons, ag_d, lents_d, lents_pl, lents_nil, backs_nil, backs_d, backs_pl, backW, lock_d, lock_fr, lock_pl, setW, tgD, tgsD, normW, finA, List.getElem?_cons_zero, List.getElem?_cons_succ, List.set_cons_zero, List.set_cons_succ, Option.bind_some, Option.bind_none, Option.map_some, Option.map_none, List.map_cons, List.map_nil, List.replicate, List.cons_append, List.nil_append, Bool.and_true, Bool.and_self, if_true, if_false, Bool.false_eq_true, reduceCtorEq, List.length_cons, List.length_nil, Nat.reduceAdd, Nat.reduceSub, List.all_cons, List.all_nil, List.getD_cons_zero, List.getD_cons_succ, plainVs, backV, wipeW, biD, len_lst, len_tup, len_scr, tupleD, listD, allD, intD, absD, isiD, isiO_non, isiO_bl, isiO_int, isiO_str, isiO_tup, isiO_lst, isiO_scr, len_gl, x_gl, isN, b_add, b_sub, b_mulr, b_mull, b_fdiv, b_mod, b_pow, b_shl, b_shr, b_band, b_bor, b_bxor, b_addt, b_addl, b_repl, c_eqi, c_eqs, c_eqb, c_nei, c_nes, c_lt, c_le, c_gt, c_ge, c_is, c_isn, c_isb, c_isnb, isB, c_in, x_lst, x_tup, x_scr, it_lst, it_tup, it_scr, Bool.not_true, Bool.not_false, id_eq, blsOf, intsOf, strsOf, and_self, true_and, and_true, Nat.reduceMul, Nat.reducePow, Nat.reduceLeDiff, Int.reduceLT, Int.reduceLE, Int.reduceNeg, Int.reducePow, Int.reduceToNat, Int.reduceMul, Int.reduceAdd, Int.reduceSub, List.flatten_cons, List.flatten_nil, List.append_nil, line_nil, line_n, decide_true, decide_false, callG_1 g5, c_neb, c_nebl, callG_1 g18, callG_2 g16]
    | false =>
      rw [z] at g5
      rw [z, if_neg (by decide)] at g18 g16
      simp only [runs_nil, runs_cons, run_asg, run_asgT, run_par, run_aug, run_app, run_seti, run_expr, run_iff, run_whl, run_fr, run_ret, run_retN, run_pass, run_brk, run_cont, ev_var, ev_cst, ev_tup, ev_lst, ev_bin, ev_neg, ev_cmp, ev_cmp2, ev_and, ev_or, ev_not, ev_ife, ev_ix, ev_sl, ev_call, ev_bi, ev_isi, ev_mt1, ev_lc, ev_ali, ev_mkT, ev_callT, run_tape, run_mpar, evM_nil, evM_cons, thaw_d, thaw_fr, thaw_pl, asgs, run_gset, run_gpop, glL, putG, setG, fin_next, fin_ret, fin_exc, fin_any, seq_any, evs_nil, evs_cons, evL_nil, evL_cons, evG_nil, evG_cons, evT_yes, evT_not, evT_and, evT_or, evT_ife, evT_val, evO_no, evO_so, evI_ex, evI_rng1, evI_rng2, evI_zip, evI_enm, evI_rng3, zip_tup, zip_lst, tru_bl, tru_int, R.bind_ok, FR.of_ok, seq_next, seq_ret, seq_brk, seq_cont, seq_exc, seq_ite, of_some, of_none, get_d, get_fr, get_pl, cont_dat, cont_own, cont_bor, cont_lck, frz_d, frz_fr, asg_d, asg_fr, argF, argT, gets_nil, gets_cons, ags_nil, ags_cons, ag_d, lents_d, lents_pl, lents_nil, backs_nil, backs_d, backs_pl, backW, lock_d, lock_fr, lock_pl, setW, tgD, tgsD, normW, finA, List.getElem?_cons_zero, List.getElem?_cons_succ, List.set_cons_zero, List.set_cons_succ, Option.bind_some, Option.bind_none, Option.map_some, Option.map_none, List.map_cons, List.map_nil, List.replicate, List.cons_append, List.nil_append, Bool.and_true, Bool.and_self, if_true, if_false, Bool.false_eq_true, reduceCtorEq, List.length_cons, List.length_nil, Nat.reduceAdd, Nat.reduceSub, List.all_cons, List.all_nil, List.getD_cons_zero, List.getD_cons_succ, plainVs, backV, wipeW, biD, len_lst, len_tup, len_scr, tupleD, listD, allD, intD, absD, isiD, isiO_non, isiO_bl, isiO_int, isiO_str, isiO_tup, isiO_lst, isiO_scr, len_gl, x_gl, isN, b_add, b_sub, b_mulr, b_mull, b_fdiv, b_mod, b_pow, b_shl, b_shr, b_band, b_bor, b_bxor, b_addt, b_addl, b_repl, c_eqi, c_eqs, c_eqb, c_nei, c_nes, c_lt, c_le, c_gt, c_ge, c_is, c_isn, c_isb, c_isnb, isB, c_in, x_lst, x_tup, x_scr, it_lst, it_tup, it_scr, Bool.not_true, Bool.not_false, id_eq, blsOf, intsOf, strsOf, and_self, true_and, and_true, Nat.reduceMul, Nat.reducePow, Nat.reduceLeDiff, Int.reduceLT, Int.reduceLE, Int.reduceNeg, Int.reducePow, Int.reduceToNat, Int.reduceMul, Int.reduceAdd, Int.reduceSub, List.flatten_cons, List.flatten_nil, List.append_nil, line_nil, line_n, decide_true, decide_false, callG_1 g5, c_neb, c_nebl, callG_1 g18, callG_2 g16]
  have s3 : run φ b8_3 [a0, .own d2, a2, a3, a4, .dat (.tup [.int p, .int q]), a6, a7, a8, a9, a10, w11, a12, a13, a14, .dat (.tup [x, y]), .dat (.bl (addrB (.tup [x, y]))), .own e2] = .next [a0, .own d2, a2, a3, a4, .dat (.tup [.int p, .int q]), a6, a7, a8, a9, a10, w11, a12, a13, a14, .dat (.tup [x, y]), .dat (.bl (addrB (.tup [x, y]))), .own e2] := by
    refine iff_no ?_
    unfold aoo at g7 g7l
    cases z : addrB (.tup [x, y]) with
    | true =>
      rw [z, if_pos rfl] at g7 g7l
      obtain ⟨u, v, ee, _⟩ := addr_len z
      cases ee
      simp only [runs_nil, runs_cons, run_asg, run_asgT, run_par, run_aug, run_app, run_seti, run_expr, run_iff, run_whl, run_fr, run_ret, run_retN, run_pass, run_brk, run_cont, ev_var, ev_cst, ev_tup, ev_lst, ev_bin, ev_neg, ev_cmp, ev_cmp2, ev_and, ev_or, ev_not, ev_ife, ev_ix, ev_sl, ev_call, ev_bi, ev_isi, ev_mt1, ev_lc, ev_ali, ev_mkT, ev_callT, run_tape, run_mpar, evM_nil, evM_cons, thaw_d, thaw_fr, thaw_pl, asgs, run_gset, run_gpop, glL, putG, setG, fin_next, fin_ret, fin_exc, fin_any, seq_any, evs_nil, evs_cons, evL_nil, evL_cons, evG_nil, evG_cons, evT_yes, evT_not, evT_and, evT_or, evT_ife, evT_val, evO_no, evO_so, evI_ex, evI_rng1, evI_rng2, evI_zip, evI_enm, evI_rng3, zip_tup, zip_lst, tru_bl, tru_int, R.bind_ok, FR.of_ok, seq_next, seq_ret, seq_brk, seq_cont, seq_exc, seq_ite, of_some, of_none, get_d, get_fr, get_pl, cont_dat, cont_own, cont_bor, cont_lck, frz_d, frz_fr, asg_d, asg_fr, argF, argT, gets_nil, gets_cons, ags_nil, ags_cons, ag_d, lents_d, lents_pl, lents_nil, backs_nil, backs_d, backs_pl, backW, lock_d, lock_fr, lock_pl, setW, tgD, tgsD, normW, finA, List.getElem?_cons_zero, List.getElem?_cons_succ, List.set_cons_zero, List.set_cons_succ, Option.bind_some, Option.bind_none, Option.map_some, Option.map_none, List.map_cons, List.map_nil, List.replicate, List.cons_append, List.nil_append, Bool.and_true, Bool.and_self, if_true, if_false, Bool.false_eq_true, reduceCtorEq, List.length_cons, List.length_nil, Nat.reduceAdd, Nat.reduceSub, List.all_cons, List.all_nil, List.getD_cons_zero, List.getD_cons_succ, plainVs, backV, wipeW, biD, len_lst, len_tup, len_scr, tupleD, listD, allD, intD, absD, isiD, isiO_non, isiO_bl, isiO_int, isiO_str, isiO_tup, isiO_lst, isiO_scr, len_gl, x_gl, isN, b_add, b_sub, b_mulr, b_mull, b_fdiv, b_mod, b_pow, b_shl, b_shr, b_band, b_bor, b_bxor, b_addt, b_addl, b_repl, c_eqi, c_eqs, c_eqb, c_nei, c_nes, c_lt, c_le, c_gt, c_ge, c_is, c_isn, c_isb, c_isnb, isB, c_in, x_lst, x_tup, x_scr, it_lst, it_tup, it_scr, Bool.not_true, Bool.not_false, id_eq, blsOf, intsOf, strsOf, and_self, true_and, and_true, Nat.reduceMul, Nat.reducePow, Nat.reduceLeDiff, Int.reduceLT, Int.reduceLE, Int.reduceNeg, Int.reducePow, Int.reduceToNat, Int.reduceMul, Int.reduceAdd, Int.reduceSub, List.flatten_cons, List.flatten_nil, List.append_nil, line_nil, line_n, decide_true, decide_false, callG_1 g7, callG_1 g7l, c_net, eq_pair, callG_1 g5l', callG_1 g5t]
    | false =>
      simp only [runs_nil, runs_cons, run_asg, run_asgT, run_par, run_aug, run_app, run_seti, run_expr, run_iff, run_whl, run_fr, run_ret, run_retN, run_pass, run_brk, run_cont, ev_var, ev_cst, ev_tup, ev_lst, ev_bin, ev_neg, ev_cmp, ev_cmp2, ev_and, ev_or, ev_not, ev_ife, ev_ix, ev_sl, ev_call, ev_bi, ev_isi, ev_mt1, ev_lc, ev_ali, ev_mkT, ev_callT, run_tape, run_mpar, evM_nil, evM_cons, thaw_d, thaw_fr, thaw_pl, asgs, run_gset, run_gpop, glL, putG, setG, fin_next, fin_ret, fin_exc, fin_any, seq_any, evs_nil, evs_cons, evL_nil, evL_cons, evG_nil, evG_cons, evT_yes, evT_not, evT_and, evT_or, evT_ife, evT_val, evO_no, evO_so, evI_ex, evI_rng1, evI_rng2, evI_zip, evI_enm, evI_rng3, zip_tup, zip_lst, tru_bl, tru_int, R.bind_ok, FR.of_ok, seq_next, seq_ret, seq_brk, seq_cont, seq_exc, seq_ite, of_some, of_none, get_d, get_fr, get_pl, cont_dat, cont_own, cont_bor, cont_lck, frz_d, frz_fr, asg_d, asg_fr, argF, argT, gets_nil, gets_cons, ags_nil, ags_cons, ag_d, lents_d, lents_pl, lents_nil, backs_nil, backs_d, backs_pl, backW, lock_d, lock_fr, lock_pl, setW, tgD, tgsD, normW, finA, List.getElem?_cons_zero, List.getElem?_cons_succ, List.set_cons_zero, List.set_cons_succ, Option.bind_some, Option.bind_none, Option.map_some, Option.map_none, List.map_cons, List.map_nil, List.replicate, List.cons_append, List.nil_append, Bool.and_true, Bool.and_self, if_true, if_false, Bool.false_eq_true, reduceCtorEq, List.length_cons, List.length_nil, Nat.reduceAdd, Nat.reduceSub, List.all_cons, List.all_nil, List.getD_cons_zero, List.getD_cons_succ, plainVs, backV, wipeW, biD, len_lst, len_tup, len_scr, tupleD, listD, allD, intD, absD, isiD, isiO_non, isiO_bl, isiO_int, isiO_str, isiO_tup, isiO_lst, isiO_scr, len_gl, x_gl, isN, b_add, b_sub, b_mulr, b_mull, b_fdiv, b_mod, b_pow, b_shl, b_shr, b_band, b_bor, b_bxor, b_addt, b_addl, b_repl, c_eqi, c_eqs, c_eqb, c_nei, c_nes, c_lt, c_le, c_gt, c_ge, c_is, c_isn, c_isb, c_isnb, isB, c_in, x_lst, x_tup, x_scr, it_lst, it_tup, it_scr, Bool.not_true, Bool.not_false, id_eq, blsOf, intsOf, strsOf, and_self, true_and, and_true, Nat.reduceMul, Nat.reducePow, Nat.reduceLeDiff, Int.reduceLT, Int.reduceLE, Int.reduceNeg, Int.reducePow, Int.reduceToNat, Int.reduceMul, Int.reduceAdd, Int.reduceSub, List.flatten_cons, List.flatten_nil, List.append_nil, line_nil, line_n, decide_true, decide_false, callG_1 g5l', callG_1 g5t]
  refine ⟨d2, e2, .tup [x, y], .bl (addrB (.tup [x, y])), ?_, t2⟩
  unfold body8
  rw [runs_cons, s0, seq_next, runs_cons, s1, seq_next, runs_cons, s2, seq_next, runs_cons, s3, seq_next, runs_nil]

def Good (c : Ss) (ρ : Pv.Env) : Prop := ∃ ρ', runs φ c ρ = .ret (.d (.bl true)) ρ'
@[elab_as_elim] theorem step_any {P : Ss → Prop} (c : Ss) (h : ∀ c, P c) : P c := h c
variable {p q : Int}
theorem L10 (hp : addrB (.tup [.int p, .int q]) = true) (a0 a1 a2 a3 a4 a6 a7 a8 a9 a10 a11 a12 a13 a14 a15 a16 a17 : Pv.W) : Good c_law_10 [a0, a1, a2, a3, a4, .dat (.tup [.int p, .int q]), a6, a7, a8, a9, a10, a11, a12, a13, a14, a15, a16, a17] := by
  have sp : ∀ x ∈ [D.int p, D.int q], Sol x := fa_cons (sol_int _) (fa_cons (sol_int _) fa_nil)
  have g5 := is_address 6 (ok1_tup (ds := [.int p, .int q]) (by decide : 2 ≤ 1000) sp)
  rw [hp] at g5
  have g7 := of_tup 5 (ds := [.int p, .int q]) (by decide : 2 ≤ 1000) sp
  unfold aoo at g7
  rw [if_pos hp] at g7
  have g12 := word1 3 (ds := []) (by decide : 0 ≤ 1000) fa_nil
  rw [show wordP [] = .non from rfl] at g12
  unfold Good c_law_10 c_law_11
  simp only [runs_nil, runs_cons, run_asg, run_asgT, run_par, run_aug, run_app, run_seti, run_expr, run_iff, run_whl, run_fr, run_ret, run_retN, run_pass, run_brk, run_cont, ev_var, ev_cst, ev_tup, ev_lst, ev_bin, ev_neg, ev_cmp, ev_cmp2, ev_and, ev_or, ev_not, ev_ife, ev_ix, ev_sl, ev_call, ev_bi, ev_isi, ev_mt1, ev_lc, ev_ali, ev_mkT, ev_callT, run_tape, run_mpar, evM_nil, evM_cons, thaw_d, thaw_fr, thaw_pl, asgs, run_gset, run_gpop, glL, putG, setG, fin_next, fin_ret, fin_exc, fin_any, seq_any, evs_nil, evs_cons, evL_nil, evL_cons, evG_nil, evG_cons, evT_yes, evT_not, evT_and, evT_or, evT_ife, evT_val, evO_no, evO_so, evI_ex, evI_rng1, evI_rng2, evI_zip, evI_enm, evI_rng3, zip_tup, zip_lst, tru_bl, tru_int, R.bind_ok, FR.of_ok, seq_next, seq_ret, seq_brk, seq_cont, seq_exc, seq_ite, of_some, of_none, get_d, get_fr, get_pl, cont_dat, cont_own, cont_bor, cont_lck, frz_d, frz_fr, asg_d, asg_fr, argF, argT, gets_nil, gets_cons, ags_nil, ags_cons, ag_d, lents_d, lents_pl, lents_nil, backs_nil, backs_d, backs_pl, backW, lock_d, lock_fr, lock_pl, setW, tgD, tgsD, normW, finA, List.getElem?_cons_zero, List.getElem?_cons_succ, List.set_cons_zero, List.set_cons_succ, Option.bind_some, Option.bind_none, Option.map_some, Option.map_none, List.map_cons, List.map_nil, List.replicate, List.cons_append, List.nil_append, Bool.and_true, Bool.and_self, if_true, if_false, Bool.false_eq_true, reduceCtorEq, List.length_cons, List.length_nil, Nat.reduceAdd, Nat.reduceSub, List.all_cons, List.all_nil, List.getD_cons_zero, List.getD_cons_succ, plainVs, backV, wipeW, biD, len_lst, len_tup, len_scr, tupleD, listD, allD, intD, absD, isiD, isiO_non, isiO_bl, isiO_int, isiO_str, isiO_tup, isiO_lst, isiO_scr, len_gl, x_gl, isN, b_add, b_sub, b_mulr, b_mull, b_fdiv, b_mod, b_pow, b_shl, b_shr, b_band, b_bor, b_bxor, b_addt, b_addl, b_repl, c_eqi, c_eqs, c_eqb, c_nei, c_nes, c_lt, c_le, c_gt, c_ge, c_is, c_isn, c_isb, c_isnb, isB, c_in, x_lst, x_tup, x_scr, it_lst, it_tup, it_scr, Bool.not_true, Bool.not_false, id_eq, blsOf, intsOf, strsOf, and_self, true_and, and_true, Nat.reduceMul, Nat.reducePow, Nat.reduceLeDiff, Int.reduceLT, Int.reduceLE, Int.reduceNeg, Int.reducePow, Int.reduceToNat, Int.reduceMul, Int.reduceAdd, Int.reduceSub, List.flatten_cons, List.flatten_nil, List.append_nil, line_nil, line_n, decide_true, decide_false, callG_1 g5, callG_1 g7, c_eqt, eq_pair, callG_1 g12]
  exact ⟨_, rfl⟩
theorem L9 (hp : addrB (.tup [.int p, .int q]) = true) (a0 a1 a2 a3 a4 a6 a7 a8 a9 a10 a11 a12 a13 a14 a15 a16 a17 : Pv.W) : Good c_law_9 [a0, a1, a2, a3, a4, .dat (.tup [.int p, .int q]), a6, a7, a8, a9, a10, a11, a12, a13, a14, a15, a16, a17] := by
  have hn := L10 hp a0 a1 a2 a3 a4 a6 a7 a8 a9 a10 a11 a12 a13 a14 a15 a16 a17
  unfold Good c_law_9
  revert hn
  refine step_any c_law_10 ?_
  intro cc hn
  rw [runs_cons, iff_no (ρ' := [a0, a1, a2, a3, a4, .dat (.tup [.int p, .int q]), a6, a7, a8, a9, a10, a11, a12, a13, a14, a15, a16, a17]) (by kernel_rfl), seq_next]
  exact hn
theorem L8 {b : Nat} {d e : D} (t : Tp b d e) (hp : addrB (.tup [.int p, .int q]) = true) (a0 a2 a3 a4 a6 a7 a9 a10 a12 a13 a14 : Pv.W) {w8 w11 : Pv.W} (h8 : Dull w8) (h11 : Dull w11) : Good c_law_8 [a0, .own d, a2, a3, a4, .dat (.tup [.int p, .int q]), a6, a7, w8, a9, a10, w11, a12, a13, a14, .un, .un, .own e] := by
  have hr : rngOk 0 8 = true := by decide
  unfold Good
  rw [code8]
  simp only [runs_nil, runs_cons, run_asg, run_asgT, run_par, run_aug, run_app, run_seti, run_expr, run_iff, run_whl, run_fr, run_ret, run_retN, run_pass, run_brk, run_cont, ev_var, ev_cst, ev_tup, ev_lst, ev_bin, ev_neg, ev_cmp, ev_cmp2, ev_and, ev_or, ev_not, ev_ife, ev_ix, ev_sl, ev_call, ev_bi, ev_isi, ev_mt1, ev_lc, ev_ali, ev_mkT, ev_callT, run_tape, run_mpar, evM_nil, evM_cons, thaw_d, thaw_fr, thaw_pl, asgs, run_gset, run_gpop, glL, putG, setG, fin_next, fin_ret, fin_exc, fin_any, seq_any, evs_nil, evs_cons, evL_nil, evL_cons, evG_nil, evG_cons, evT_yes, evT_not, evT_and, evT_or, evT_ife, evT_val, evO_no, evO_so, evI_ex, evI_rng1, evI_rng2, evI_zip, evI_enm, evI_rng3, zip_tup, zip_lst, tru_bl, tru_int, R.bind_ok, FR.of_ok, seq_next, seq_ret, seq_brk, seq_cont, seq_exc, seq_ite, of_some, of_none, get_d, get_fr, get_pl, cont_dat, cont_own, cont_bor, cont_lck, frz_d, frz_fr, asg_d, asg_fr, argF, argT, gets_nil, gets_cons, ags_nil, ags_cons, ag_d, lents_d, lents_pl, lents_nil, backs_nil, backs_d, backs_pl, backW, lock_d, lock_fr, lock_pl, setW, tgD, tgsD, normW, finA, List.getElem?_cons_zero, List.getElem?_cons_succ, List.set_cons_zero, List.set_cons_succ, Option.bind_some, Option.bind_none, Option.map_some, Option.map_none, List.map_cons, List.map_nil, List.replicate, List.cons_append, List.nil_append, Bool.and_true, Bool.and_self, if_true, if_false, Bool.false_eq_true, reduceCtorEq, List.length_cons, List.length_nil, Nat.reduceAdd, Nat.reduceSub, List.all_cons, List.all_nil, List.getD_cons_zero, List.getD_cons_succ, plainVs, backV, wipeW, biD, len_lst, len_tup, len_scr, tupleD, listD, allD, intD, absD, isiD, isiO_non, isiO_bl, isiO_int, isiO_str, isiO_tup, isiO_lst, isiO_scr, len_gl, x_gl, isN, b_add, b_sub, b_mulr, b_mull, b_fdiv, b_mod, b_pow, b_shl, b_shr, b_band, b_bor, b_bxor, b_addt, b_addl, b_repl, c_eqi, c_eqs, c_eqb, c_nei, c_nes, c_lt, c_le, c_gt, c_ge, c_is, c_isn, c_isb, c_isnb, isB, c_in, x_lst, x_tup, x_scr, it_lst, it_tup, it_scr, Bool.not_true, Bool.not_false, id_eq, blsOf, intsOf, strsOf, and_self, true_and, and_true, Nat.reduceMul, Nat.reducePow, Nat.reduceLeDiff, Int.reduceLT, Int.reduceLE, Int.reduceNeg, Int.reducePow, Int.reduceToNat, Int.reduceMul, Int.reduceAdd, Int.reduceSub, List.flatten_cons, List.flatten_nil, List.append_nil, line_nil, line_n, decide_true, decide_false, hr]
  refine good_fr (fun _ ρ => ∃ d e w8 w15 w16, ρ = [a0, .own d, a2, a3, a4, .dat (.tup [.int p, .int q]), a6, a7, w8, a9, a10, w11, a12, a13, a14, w15, w16, .own e] ∧ Tp b d e ∧ Dull w8 ∧ Dull w15 ∧ Dull w16) ⟨d, e, w8, .un, .un, rfl, t, h8, .un, .un⟩ ?_ ?_
  · rintro j x ρ hx ⟨d, e, w8, w15, w16, rfl, t, h8, h15, h16⟩
    obtain ⟨d', e', x15, x16, er, t'⟩ := turn8 t p q a0 a2 a3 a4 a6 a7 (.dat x) a9 a10 a12 a13 a14 h11 h15 h16
    refine ⟨[a0, .own d, a2, a3, a4, .dat (.tup [.int p, .int q]), a6, a7, .dat x, a9, a10, w11, a12, a13, a14, w15, w16, .own e], _, ?_, er, d', e', _, _, _, rfl, t', .dat _, .dat _, .dat _⟩
    rcases h8 with rfl | ⟨z, rfl⟩ <;> rfl
  · rintro ρ' ⟨d, e, w8, w15, w16, rfl, t, _, _, _⟩
    exact L9 hp a0 (.own d) a2 a3 a4 a6 a7 w8 a9 a10 w11 a12 a13 a14 w15 w16 (.own e)
theorem L7 {b : Nat} {d e : D} (t : Tp b d e) (hp : addrB (.tup [.int p, .int q]) = true) (hw boot : Int) (a0 a4 a6 a7 a9 a10 a12 : Pv.W) {w8 w11 : Pv.W} (h8 : Dull w8) (h11 : Dull w11) : Good c_law_7 [a0, .own d, .dat (.int hw), .dat (.int boot), a4, .dat (.tup [.int p, .int q]), a6, a7, w8, a9, a10, w11, a12, .un, .un, .un, .un, .own e] := by
  unfold Good
  rw [code7, runs_cons, run_fr, show evI φ _ [a0, .own d, .dat (.int hw), .dat (.int boot), a4, .dat (.tup [.int p, .int q]), a6, a7, w8, a9, a10, w11, a12, .un, .un, .un, .un, .own e] =
    .ok (.fr (.lst [.int 0, .int 1, .int 30, .int 31, .int 200, .int 201, .int 202, .int (-1), .bl true, .non, .str "1", .tup [.int 1], .int hw, .int boot]), [.int 0, .int 1, .int 30, .int 31, .int 200, .int 201, .int 202, .int (-1), .bl true, .non, .str "1", .tup [.int 1], .int hw, .int boot]) [a0, .own d, .dat (.int hw), .dat (.int boot), a4, .dat (.tup [.int p, .int q]), a6, a7, w8, a9, a10, w11, a12, .un, .un, .un, .un, .own e] from by kernel_rfl]
  have hs : ∀ x ∈ [D.int 0, .int 1, .int 30, .int 31, .int 200, .int 201, .int 202, .int (-1), .bl true, .non, .str "1", .tup [.int 1], .int hw, .int boot], Sol x :=
    fa_cons (sol_int _) (fa_cons (sol_int _) (fa_cons (sol_int _) (fa_cons (sol_int _) (fa_cons (sol_int _) (fa_cons (sol_int _) (fa_cons (sol_int _) (fa_cons (sol_int _) (fa_cons (sol_bl _) (fa_cons sol_non (fa_cons (sol_str _) (fa_cons (sol_tup _) (fa_cons (sol_int _) (fa_cons (sol_int _) fa_nil)))))))))))))
  generalize [D.int 0, .int 1, .int 30, .int 31, .int 200, .int 201, .int 202, .int (-1), .bl true, .non, .str "1", .tup [.int 1], .int hw, .int boot] = vals at hs ⊢
  simp only [FR.of_ok, lock_fr]
  refine good_fr (fun _ ρ => ∃ w13 w14, ρ = [a0, .own d, .dat (.int hw), .dat (.int boot), a4, .dat (.tup [.int p, .int q]), a6, a7, w8, a9, a10, w11, a12, w13, w14, .un, .un, .own e] ∧ Dull w13 ∧ Dull w14) ⟨.un, .un, rfl, .un, .un⟩ ?_ ?_
  · rintro j x ρ hx ⟨w13, w14, rfl, h13, h14⟩
    obtain ⟨x14, er⟩ := turn7 (hs x (List.mem_of_getElem? hx)) a0 (.own d) (.dat (.int hw)) (.dat (.int boot)) a4 (.dat (.tup [.int p, .int q])) a6 a7 w8 a9 a10 w11 a12 .un .un (.own e) h14
    refine ⟨[a0, .own d, .dat (.int hw), .dat (.int boot), a4, .dat (.tup [.int p, .int q]), a6, a7, w8, a9, a10, w11, a12, .dat x, w14, .un, .un, .own e], _, ?_, er, _, _, rfl, .dat _, .dat _⟩
    rcases h13 with rfl | ⟨z, rfl⟩ <;> rfl
  · rintro ρ' ⟨w13, w14, rfl, _, _⟩
    exact L8 t hp a0 (.dat (.int hw)) (.dat (.int boot)) a4 a6 a7 a9 a10 a12 w13 w14 h8 h11
theorem L6 {b : Nat} {d e : D} (t : Tp b d e) (hp : addrB (.tup [.int p, .int q]) = true) (hw boot : Int) {xs ys : List D} (hx : ∀ x ∈ xs, Sol x) (hy : ∀ x ∈ ys, Sol x) (lx : 0 < xs.length ∧ xs.length ≤ 100) (ly : 0 < ys.length ∧ ys.length ≤ 100) (a0 a4 : Pv.W) :
    Good c_law_6 [a0, .own d, .dat (.int hw), .dat (.int boot), a4, .dat (.tup [.int p, .int q]), .dat (.tup xs), .dat (.tup ys), .un, .un, .un, .un, .un, .un, .un, .un, .un, .own e] := by
  have hr : rngOk 0 12 = true := by decide
  unfold Good
  rw [code6]
  simp only [runs_nil, runs_cons, run_asg, run_asgT, run_par, run_aug, run_app, run_seti, run_expr, run_iff, run_whl, run_fr, run_ret, run_retN, run_pass, run_brk, run_cont, ev_var, ev_cst, ev_tup, ev_lst, ev_bin, ev_neg, ev_cmp, ev_cmp2, ev_and, ev_or, ev_not, ev_ife, ev_ix, ev_sl, ev_call, ev_bi, ev_isi, ev_mt1, ev_lc, ev_ali, ev_mkT, ev_callT, run_tape, run_mpar, evM_nil, evM_cons, thaw_d, thaw_fr, thaw_pl, asgs, run_gset, run_gpop, glL, putG, setG, fin_next, fin_ret, fin_exc, fin_any, seq_any, evs_nil, evs_cons, evL_nil, evL_cons, evG_nil, evG_cons, evT_yes, evT_not, evT_and, evT_or, evT_ife, evT_val, evO_no, evO_so, evI_ex, evI_rng1, evI_rng2, evI_zip, evI_enm, evI_rng3, zip_tup, zip_lst, tru_bl, tru_int, R.bind_ok, FR.of_ok, seq_next, seq_ret, seq_brk, seq_cont, seq_exc, seq_ite, of_some, of_none, get_d, get_fr, get_pl, cont_dat, cont_own, cont_bor, cont_lck, frz_d, frz_fr, asg_d, asg_fr, argF, argT, gets_nil, gets_cons, ags_nil, ags_cons, ag_d, lents_d, lents_pl, lents_nil, backs_nil, backs_d, backs_pl, backW, lock_d, lock_fr, lock_pl, setW, tgD, tgsD, normW, finA, List.getElem?_cons_zero, List.getElem?_cons_succ, List.set_cons_zero, List.set_cons_succ, Option.bind_some, Option.bind_none, Option.map_some, Option.map_none, List.map_cons, List.map_nil, List.replicate, List.cons_append, List.nil_append, Bool.and_true, Bool.and_self, if_true, if_false, Bool.false_eq_true, reduceCtorEq, List.length_cons, List.length_nil, Nat.reduceAdd, Nat.reduceSub, List.all_cons, List.all_nil, List.getD_cons_zero, List.getD_cons_succ, plainVs, backV, wipeW, biD, len_lst, len_tup, len_scr, tupleD, listD, allD, intD, absD, isiD, isiO_non, isiO_bl, isiO_int, isiO_str, isiO_tup, isiO_lst, isiO_scr, len_gl, x_gl, isN, b_add, b_sub, b_mulr, b_mull, b_fdiv, b_mod, b_pow, b_shl, b_shr, b_band, b_bor, b_bxor, b_addt, b_addl, b_repl, c_eqi, c_eqs, c_eqb, c_nei, c_nes, c_lt, c_le, c_gt, c_ge, c_is, c_isn, c_isb, c_isnb, isB, c_in, x_lst, x_tup, x_scr, it_lst, it_tup, it_scr, Bool.not_true, Bool.not_false, id_eq, blsOf, intsOf, strsOf, and_self, true_and, and_true, Nat.reduceMul, Nat.reducePow, Nat.reduceLeDiff, Int.reduceLT, Int.reduceLE, Int.reduceNeg, Int.reducePow, Int.reduceToNat, Int.reduceMul, Int.reduceAdd, Int.reduceSub, List.flatten_cons, List.flatten_nil, List.append_nil, line_nil, line_n, decide_true, decide_false, hr]
  refine good_fr (fun _ ρ => ∃ d e w8 w9 w10 w11 w12, ρ = [a0, .own d, .dat (.int hw), .dat (.int boot), a4, .dat (.tup [.int p, .int q]), .dat (.tup xs), .dat (.tup ys), w8, w9, w10, w11, w12, .un, .un, .un, .un, .own e] ∧ Tp b d e ∧ Dull w8 ∧ Dull w9 ∧ Dull w10 ∧ Dull w11 ∧ Dull w12) ⟨d, e, .un, .un, .un, .un, .un, rfl, t, .un, .un, .un, .un, .un⟩ ?_ ?_
  · rintro j x ρ hj ⟨d, e, w8, w9, w10, w11, w12, rfl, t, h8, h9, h10, h11, h12⟩
    obtain ⟨d', e', x9, x10, x11, x12, er, t'⟩ := turn6 t hx hy lx ly a0 (.dat (.int hw)) (.dat (.int boot)) a4 (.dat (.tup [.int p, .int q])) (.dat x) .un .un .un .un h9 h10 h11 h12
    refine ⟨[a0, .own d, .dat (.int hw), .dat (.int boot), a4, .dat (.tup [.int p, .int q]), .dat (.tup xs), .dat (.tup ys), .dat x, w9, w10, w11, w12, .un, .un, .un, .un, .own e], _, ?_, er, d', e', _, _, _, _, _, rfl, t', .dat _, .dat _, .dat _, .dat _, .dat _⟩
    rcases h8 with rfl | ⟨z, rfl⟩ <;> rfl
  · rintro ρ' ⟨d, e, w8, w9, w10, w11, w12, rfl, t, h8, _, _, h11, _⟩
    exact L7 t hp hw boot a0 a4 (.dat (.tup xs)) (.dat (.tup ys)) w9 w10 w12 h8 h11
theorem ask_word {hw boot n : Int} (h1 : 1 ≤ hw) (h2 : hw ≤ 200) (h3 : 1 ≤ boot) (h4 : boot ≤ 201) (h5 : 0 ≤ n) (h6 : n < 65536) : wordP [.int 1, .int hw, .int boot, .int (n / 256), .int (n % 256)] = .tup [.str "ask", .int hw, .int boot, .int n] := by
  have e : n / 256 * 256 + n % 256 = n := by omega
  have al : [D.int 1, .int hw, .int boot, .int (n / 256), .int (n % 256)].all (isLess 256) = true := by
    simp only [List.all_cons, List.all_nil, isLess, Bool.and_true, Bool.and_eq_true, decide_eq_true_eq]
    omega
  have q1 : hwB 200 (.int hw) = true := by simp only [hwB, Bool.and_eq_true, decide_eq_true_eq]; omega
  have q2 : hwB 201 (.int boot) = true := by simp only [hwB, Bool.and_eq_true, decide_eq_true_eq]; omega
  unfold wordP
  rw [if_pos al]
  unfold wordD
  simp only [q1, q2, if_true, e]
theorem ans_word {hw boot n : Int} (h1 : 1 ≤ hw) (h2 : hw ≤ 200) (h3 : 1 ≤ boot) (h4 : boot ≤ 201) (h5 : 0 ≤ n) (h6 : n < 65536) (hp : addrB (.tup [.int p, .int q]) = true) : wordP [.int 2, .int hw, .int boot, .int (n / 256), .int (n % 256), .int p, .int q] = .tup [.str "answer", .int hw, .int boot, .int n, .tup [.int p, .int q]] := by
  have e : n / 256 * 256 + n % 256 = n := by omega
  obtain ⟨a, b, ee, r1, r2, r3, r4⟩ := addr_len hp
  cases ee
  have al : [D.int 2, .int hw, .int boot, .int (n / 256), .int (n % 256), .int p, .int q].all (isLess 256) = true := by
    simp only [List.all_cons, List.all_nil, isLess, Bool.and_true, Bool.and_eq_true, decide_eq_true_eq]
    omega
  have q1 : hwB 200 (.int hw) = true := by simp only [hwB, Bool.and_eq_true, decide_eq_true_eq]; omega
  have q2 : hwB 201 (.int boot) = true := by simp only [hwB, Bool.and_eq_true, decide_eq_true_eq]; omega
  unfold wordP
  rw [if_pos al]
  unfold wordD
  simp only [q1, q2, hp, if_true, e]

theorem L4 {b : Nat} {d e : D} (t : Tp b d e) {p q hw boot n : Int} (hp : addrB (.tup [.int p, .int q]) = true) (h1 : 1 ≤ hw) (h2 : hw ≤ 200) (h3 : 1 ≤ boot) (h4 : boot ≤ 201) (h5 : 0 ≤ n) (h6 : n < 65536) (a0 : Pv.W) :
    Good c_law_4 [a0, .own d, .dat (.int hw), .dat (.int boot), .dat (.int n), .dat (.tup [.int p, .int q]), .dat (.tup [.int 1, .int hw, .int boot, .int (n / 256), .int (n % 256)]), .dat (.tup [.int 2, .int hw, .int boot, .int (n / 256), .int (n % 256), .int p, .int q]), .un, .un, .un, .un, .un, .un, .un, .un, .un, .own e] := by
  have sx : ∀ x ∈ [D.int 1, .int hw, .int boot, .int (n / 256), .int (n % 256)], Sol x := fa_cons (sol_int _) (fa_cons (sol_int _) (fa_cons (sol_int _) (fa_cons (sol_int _) (fa_cons (sol_int _) fa_nil))))
  have sy : ∀ x ∈ [D.int 2, .int hw, .int boot, .int (n / 256), .int (n % 256), .int p, .int q], Sol x := fa_cons (sol_int _) (fa_cons (sol_int _) (fa_cons (sol_int _) (fa_cons (sol_int _) (fa_cons (sol_int _) (fa_cons (sol_int _) (fa_cons (sol_int _) fa_nil))))))
  have px : PT 2 (.tup [.int 1, .int hw, .int boot, .int (n / 256), .int (n % 256)]) := pt_tup (by decide : 5 ≤ 1000) (fa_cons (pt_int _) (fa_cons (pt_int _) (fa_cons (pt_int _) (fa_cons (pt_int _) (fa_cons (pt_int _) fa_nil)))))
  have py : PT 2 (.tup [.int 2, .int hw, .int boot, .int (n / 256), .int (n % 256), .int p, .int q]) := pt_tup (by decide : 7 ≤ 1000) (fa_cons (pt_int _) (fa_cons (pt_int _) (fa_cons (pt_int _) (fa_cons (pt_int _) (fa_cons (pt_int _) (fa_cons (pt_int _) (fa_cons (pt_int _) fa_nil)))))))
  have w1 := word1 3 (ds := [.int 1, .int hw, .int boot, .int (n / 256), .int (n % 256)]) (by decide : 5 ≤ 1000) sx
  rw [ask_word h1 h2 h3 h4 h5 h6] at w1
  have w2 := word1 3 (ds := [.int 2, .int hw, .int boot, .int (n / 256), .int (n % 256), .int p, .int q]) (by decide : 7 ≤ 1000) sy
  rw [ans_word h1 h2 h3 h4 h5 h6 hp] at w2
  have p1 : PT 2 (.tup [.str "ask", .int hw, .int boot, .int n]) := pt_tup (by decide : 4 ≤ 1000) (fa_cons (pt_str _) (fa_cons (pt_int _) (fa_cons (pt_int _) (fa_cons (pt_int _) fa_nil))))
  have p2 : PT 2 (.tup [.str "answer", .int hw, .int boot, .int n, .tup [.int p, .int q]]) := pt_tup (by decide : 5 ≤ 1000) (fa_cons (pt_str _) (fa_cons (pt_int _) (fa_cons (pt_int _) (fa_cons (pt_int _) (fa_cons (pt_tup (by decide : 2 ≤ 1000) (fa_cons (pt_int _) (fa_cons (pt_int _) fa_nil))) fa_nil)))))
  have hn := L6 t hp hw boot sx sy ⟨(by decide : 0 < 5), (by decide : 5 ≤ 100)⟩ ⟨(by decide : 0 < 7), (by decide : 7 ≤ 100)⟩ a0 (.dat (.int n))
  unfold Good c_law_4 c_law_5
  revert hn
  refine step_any c_law_6 ?_
  intro cc hn
  simp only [runs_nil, runs_cons, run_asg, run_asgT, run_par, run_aug, run_app, run_seti, run_expr, run_iff, run_whl, run_fr, run_ret, run_retN, run_pass, run_brk, run_cont, ev_var, ev_cst, ev_tup, ev_lst, ev_bin, ev_neg, ev_cmp, ev_cmp2, ev_and, ev_or, ev_not, ev_ife, ev_ix, ev_sl, ev_call, ev_bi, ev_isi, ev_mt1, ev_lc, ev_ali, ev_mkT, ev_callT, run_tape, run_mpar, evM_nil, evM_cons, thaw_d, thaw_fr, thaw_pl, asgs, run_gset, run_gpop, glL, putG, setG, fin_next, fin_ret, fin_exc, fin_any, seq_any, evs_nil, evs_cons, evL_nil, evL_cons, evG_nil, evG_cons, evT_yes, evT_not, evT_and, evT_or, evT_ife, evT_val, evO_no, evO_so, evI_ex, evI_rng1, evI_rng2, evI_zip, evI_enm, evI_rng3, zip_tup, zip_lst, tru_bl, tru_int, R.bind_ok, FR.of_ok, seq_next, seq_ret, seq_brk, seq_cont, seq_exc, seq_ite, of_some, of_none, get_d, get_fr, get_pl, cont_dat, cont_own, cont_bor, cont_lck, frz_d, frz_fr, asg_d, asg_fr, argF, argT, gets_nil, gets_cons, ags_nil, ags_cons, ag_d, lents_d, lents_pl, lents_nil, backs_nil, backs_d, backs_pl, backW, lock_d, lock_fr, lock_pl, setW, tgD, tgsD, normW, finA, List.getElem?_cons_zero, List.getElem?_cons_succ, List.set_cons_zero, List.set_cons_succ, Option.bind_some, Option.bind_none, Option.map_some, Option.map_none, List.map_cons, List.map_nil, List.replicate, List.cons_append, List.nil_append, Bool.and_true, Bool.and_self, if_true, if_false, Bool.false_eq_true, reduceCtorEq, List.length_cons, List.length_nil, Nat.reduceAdd, Nat.reduceSub, List.all_cons, List.all_nil, List.getD_cons_zero, List.getD_cons_succ, plainVs, backV, wipeW, biD, len_lst, len_tup, len_scr, tupleD, listD, allD, intD, absD, isiD, isiO_non, isiO_bl, isiO_int, isiO_str, isiO_tup, isiO_lst, isiO_scr, len_gl, x_gl, isN, b_add, b_sub, b_mulr, b_mull, b_fdiv, b_mod, b_pow, b_shl, b_shr, b_band, b_bor, b_bxor, b_addt, b_addl, b_repl, c_eqi, c_eqs, c_eqb, c_nei, c_nes, c_lt, c_le, c_gt, c_ge, c_is, c_isn, c_isb, c_isnb, isB, c_in, x_lst, x_tup, x_scr, it_lst, it_tup, it_scr, Bool.not_true, Bool.not_false, id_eq, blsOf, intsOf, strsOf, and_self, true_and, and_true, Nat.reduceMul, Nat.reducePow, Nat.reduceLeDiff, Int.reduceLT, Int.reduceLE, Int.reduceNeg, Int.reducePow, Int.reduceToNat, Int.reduceMul, Int.reduceAdd, Int.reduceSub, List.flatten_cons, List.flatten_nil, List.append_nil, line_nil, line_n, decide_true, decide_false, PyProof.Rows.bitAnd_m8, callG_2 (same2 px), callG_2 (same2 py), callG_1 w1, callG_1 w2, callG_2 (same2 p1), callG_2 (same2 p2)]
  exact hn
theorem L1 {b : Nat} {d e : D} (t : Tp b d e) (a0 : Pv.W) : Good c_law_1 [a0, .own d, .un, .un, .un, .un, .un, .un, .un, .un, .un, .un, .un, .un, .un, .un, .un, .own e] := by
  obtain ⟨v, d1, e1, ed1, t1, v0, v1⟩ := draw_ok p14 7 (many := 200) t (by decide) (by decide)
  obtain ⟨u, d2, e2, ed2, t2, u0, u1⟩ := draw_ok p14 7 (many := 201) t1 (by decide) (by decide)
  obtain ⟨n, d3, e3, ed3, t3, n0, n1⟩ := draw_ok p14 7 (many := 65536) t2 (by decide) (by decide)
  obtain ⟨x, d4, e4, ed4, t4, x0, x1⟩ := draw_ok p14 7 (many := 30) t3 (by decide) (by decide)
  obtain ⟨y, d5, e5, ed5, t5, y0, y1⟩ := draw_ok p14 7 (many := 250) t4 (by decide) (by decide)
  have hp : addrB (.tup [.int (1 + x), .int (1 + y)]) = true := by
    simp only [addrB, Bool.and_eq_true, decide_eq_true_eq]
    omega
  have ga := lease_ask 6 (1 + v) (1 + u) n
  have gb := lease_answer 4 (1 + v) (1 + u) n hp
  have hm : n / 256 % 256 = n / 256 := by omega
  unfold askT at ga
  unfold ansT at gb
  rw [hm] at ga gb
  have hn := L4 t5 hp (hw := 1 + v) (boot := 1 + u) (n := n) (by omega) (by omega) (by omega) (by omega) n0 n1 a0
  unfold Good c_law_1 c_law_2 c_law_3
  revert hn
  refine step_any c_law_4 ?_
  intro cc hn
  simp only [runs_nil, runs_cons, run_asg, run_asgT, run_par, run_aug, run_app, run_seti, run_expr, run_iff, run_whl, run_fr, run_ret, run_retN, run_pass, run_brk, run_cont, ev_var, ev_cst, ev_tup, ev_lst, ev_bin, ev_neg, ev_cmp, ev_cmp2, ev_and, ev_or, ev_not, ev_ife, ev_ix, ev_sl, ev_call, ev_bi, ev_isi, ev_mt1, ev_lc, ev_ali, ev_mkT, ev_callT, run_tape, run_mpar, evM_nil, evM_cons, thaw_d, thaw_fr, thaw_pl, asgs, run_gset, run_gpop, glL, putG, setG, fin_next, fin_ret, fin_exc, fin_any, seq_any, evs_nil, evs_cons, evL_nil, evL_cons, evG_nil, evG_cons, evT_yes, evT_not, evT_and, evT_or, evT_ife, evT_val, evO_no, evO_so, evI_ex, evI_rng1, evI_rng2, evI_zip, evI_enm, evI_rng3, zip_tup, zip_lst, tru_bl, tru_int, R.bind_ok, FR.of_ok, seq_next, seq_ret, seq_brk, seq_cont, seq_exc, seq_ite, of_some, of_none, get_d, get_fr, get_pl, cont_dat, cont_own, cont_bor, cont_lck, frz_d, frz_fr, asg_d, asg_fr, argF, argT, gets_nil, gets_cons, ags_nil, ags_cons, ag_d, lents_d, lents_pl, lents_nil, backs_nil, backs_d, backs_pl, backW, lock_d, lock_fr, lock_pl, setW, tgD, tgsD, normW, finA, List.getElem?_cons_zero, List.getElem?_cons_succ, List.set_cons_zero, List.set_cons_succ, Option.bind_some, Option.bind_none, Option.map_some, Option.map_none, List.map_cons, List.map_nil, List.replicate, List.cons_append, List.nil_append, Bool.and_true, Bool.and_self, if_true, if_false, Bool.false_eq_true, reduceCtorEq, List.length_cons, List.length_nil, Nat.reduceAdd, Nat.reduceSub, List.all_cons, List.all_nil, List.getD_cons_zero, List.getD_cons_succ, plainVs, backV, wipeW, biD, len_lst, len_tup, len_scr, tupleD, listD, allD, intD, absD, isiD, isiO_non, isiO_bl, isiO_int, isiO_str, isiO_tup, isiO_lst, isiO_scr, len_gl, x_gl, isN, b_add, b_sub, b_mulr, b_mull, b_fdiv, b_mod, b_pow, b_shl, b_shr, b_band, b_bor, b_bxor, b_addt, b_addl, b_repl, c_eqi, c_eqs, c_eqb, c_nei, c_nes, c_lt, c_le, c_gt, c_ge, c_is, c_isn, c_isb, c_isnb, isB, c_in, x_lst, x_tup, x_scr, it_lst, it_tup, it_scr, Bool.not_true, Bool.not_false, id_eq, blsOf, intsOf, strsOf, and_self, true_and, and_true, Nat.reduceMul, Nat.reducePow, Nat.reduceLeDiff, Int.reduceLT, Int.reduceLE, Int.reduceNeg, Int.reducePow, Int.reduceToNat, Int.reduceMul, Int.reduceAdd, Int.reduceSub, List.flatten_cons, List.flatten_nil, List.append_nil, line_nil, line_n, decide_true, decide_false, callG_to (i := 1) (g := 17) (by decide) ed1, callG_to (i := 1) (g := 17) (by decide) ed2, callG_to (i := 1) (g := 17) (by decide) ed3, callG_to (i := 1) (g := 17) (by decide) ed4, callG_to (i := 1) (g := 17) (by decide) ed5, callG_3 ga, callG_4 gb]
  exact hn
theorem law_true (ns : List Int) (hn : ns.length ≤ 63) : (callK (prg rows) 9 19 [.dat (.scr (ns.map D.int))]).Yes := by
  obtain ⟨ds, s, e, t⟩ := tape_ok p13 7 ns hn
  have key := fun b => L1 (t b) (.dat (.scr (ns.map D.int)))
  rw [callK_run (k := 8) p19]
  unfold runF c_law c_law_0
  rw [if_pos ⟨rfl, rfl⟩]
  revert key
  refine step_any c_law_1 ?_
  intro cc key
  simp only [runs_nil, runs_cons, run_asg, run_asgT, run_par, run_aug, run_app, run_seti, run_expr, run_iff, run_whl, run_fr, run_ret, run_retN, run_pass, run_brk, run_cont, ev_var, ev_cst, ev_tup, ev_lst, ev_bin, ev_neg, ev_cmp, ev_cmp2, ev_and, ev_or, ev_not, ev_ife, ev_ix, ev_sl, ev_call, ev_bi, ev_isi, ev_mt1, ev_lc, ev_ali, ev_mkT, ev_callT, run_tape, run_mpar, evM_nil, evM_cons, thaw_d, thaw_fr, thaw_pl, asgs, run_gset, run_gpop, glL, putG, setG, fin_next, fin_ret, fin_exc, fin_any, seq_any, evs_nil, evs_cons, evL_nil, evL_cons, evG_nil, evG_cons, evT_yes, evT_not, evT_and, evT_or, evT_ife, evT_val, evO_no, evO_so, evI_ex, evI_rng1, evI_rng2, evI_zip, evI_enm, evI_rng3, zip_tup, zip_lst, tru_bl, tru_int, R.bind_ok, FR.of_ok, seq_next, seq_ret, seq_brk, seq_cont, seq_exc, seq_ite, of_some, of_none, get_d, get_fr, get_pl, cont_dat, cont_own, cont_bor, cont_lck, frz_d, frz_fr, asg_d, asg_fr, argF, argT, gets_nil, gets_cons, ags_nil, ags_cons, ag_d, lents_d, lents_pl, lents_nil, backs_nil, backs_d, backs_pl, backW, lock_d, lock_fr, lock_pl, setW, tgD, tgsD, normW, finA, List.getElem?_cons_zero, List.getElem?_cons_succ, List.set_cons_zero, List.set_cons_succ, Option.bind_some, Option.bind_none, Option.map_some, Option.map_none, List.map_cons, List.map_nil, List.replicate, List.cons_append, List.nil_append, Bool.and_true, Bool.and_self, if_true, if_false, Bool.false_eq_true, reduceCtorEq, List.length_cons, List.length_nil, Nat.reduceAdd, Nat.reduceSub, List.all_cons, List.all_nil, List.getD_cons_zero, List.getD_cons_succ, plainVs, backV, wipeW, biD, len_lst, len_tup, len_scr, tupleD, listD, allD, intD, absD, isiD, isiO_non, isiO_bl, isiO_int, isiO_str, isiO_tup, isiO_lst, isiO_scr, len_gl, x_gl, isN, b_add, b_sub, b_mulr, b_mull, b_fdiv, b_mod, b_pow, b_shl, b_shr, b_band, b_bor, b_bxor, b_addt, b_addl, b_repl, c_eqi, c_eqs, c_eqb, c_nei, c_nes, c_lt, c_le, c_gt, c_ge, c_is, c_isn, c_isb, c_isnb, isB, c_in, x_lst, x_tup, x_scr, it_lst, it_tup, it_scr, Bool.not_true, Bool.not_false, id_eq, blsOf, intsOf, strsOf, and_self, true_and, and_true, Nat.reduceMul, Nat.reducePow, Nat.reduceLeDiff, Int.reduceLT, Int.reduceLE, Int.reduceNeg, Int.reducePow, Int.reduceToNat, Int.reduceMul, Int.reduceAdd, Int.reduceSub, List.flatten_cons, List.flatten_nil, List.append_nil, line_nil, line_n, decide_true, decide_false, callG_1 e]
  intro b
  obtain ⟨ρ', h⟩ := key b
  show CO.Yes (finF _ _ (runs φ cc _))
  rw [h]
  exact rfl

abbrev hk : PySem.W.Hook := hookP PySem.Challenge.rw_wirestowords_k28_whole_words_of_leases.prog 4 (faOf G rows) (rows.map dOf) cs stW
def ob (s : PySem.W.SharedT) : AlP := obsPG PySem.Challenge.rw_wirestowords_k28_whole_words_of_leases.prog 4 (faOf G rows) (rows.map dOf) cs (HandSHeadRun.getT s)
theorem ob_eq (s : PySem.W.SharedT) : ob s = hk.obs s.abs := obsPG_eq (HandSHeadRun.getT_eq s)
def loose0 : List Str := ["WireError", "InvalidAddress", "OCTET", "is_count", "is_octet", "are_octets", "octet_pairs", "number_of_octets", "LEASE_ASK", "LEASE_ANSWER", "MOST_LAN", "MOST_HOST", "MOST_HW", "MOST_BOOT", "is_address", "address_octets", "address_of_octets", "is_hardware", "is_boot", "lease_ask", "lease_answer", "lease_word", "_law_tape", "_law_draw", "_law_pick", "_law_same", "_law_word", "_law_asked"]
abbrev loose : List Str := loose0
abbrev R : PySem.W.OpenRow := PySem.W.OpenLaw.row PySem.Challenge.rw_wirestowords_k28_whole_words_of_leases
theorem run_ (w : World) : HandSHeadRun.RunEq R (PySem.W.view R.prog [32]) hk ob 12000 loose w := by
  intro os
  kernel_rfl
end K28
open PySem PySem.W PySem.Calls PyProof.Rows
theorem PySem.Challenge.cw_wirestowords_k28_whole_words_of_leases_holds : PySem.Challenge.rw_wirestowords_k28_whole_words_of_leases.Holds := by
  w_on; o_law
  refine HandSHeadRun.head_any (r := K28.R) (q := view K28.R.prog [32]) (H := K28.hk) (ob := K28.ob) (M := 12000) (loose := K28.loose) (d := HandSHeadRun.topDef K28.R.prog 32) (kwd := []) K28.ob_eq
    (by kernel_rfl) (fun s => by kernel_rfl) K28.run_ (by kernel_rfl) (by kernel_rfl) (by kernel_rfl) (by rfl) (by first | assumption | decide +kernel) (by decide +kernel) ⟨rfl, rfl, rfl, rfl, rfl, by decide +kernel⟩ ?hw ?hc
  case hw => w_witness2
  case hc =>
    exact Pv.walk_pv (l := PySem.Challenge.rw_wirestowords_k28_whole_words_of_leases) (f := 19) (k := 9) (r := K28.r_law) (x := "script") rfl (by kernel_rfl) ⟨rfl, by decide, by decide⟩ rfl rfl (by kernel_rfl) K28.hcs K28.hT K28.hTW (by kernel_rfl) K28.glok K28.oks K28.bnds rfl K28.law_true

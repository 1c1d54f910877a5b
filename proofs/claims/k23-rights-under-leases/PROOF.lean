import PyProof.Rows.All
import Wide.All
import OpenK.AllK
import Wide.FinOn
import HandS.ForMost
import HandS.TupAny
import HandS.Walk
import HandS.Deep
import HandS.TupLe
import HandS.RaiseMore
import HandS.Flow
import HandS.Exc
import KE.GoesEnum
import KE.GoesMore
import HandS.WordsExc
import HandS.Ends
import HandS.Words
import PySem.Challenge.RW_heldwater_k23_lea_rights_under_leases
set_option Elab.async false
set_option linter.all false
set_option maxRecDepth 100000
section
set_option maxRecDepth 100000
/-! MPa: mini-Python. Values, states, the interpreter. -/
namespace MP
open PySem

/-- what a value is: tuples and frozen lists by what they hold; nw: a new list that nobody has yet; sl, fl: the list that a slot, a field has for itself; ref: an object; scr: the script -/
inductive D where
  | non | bl (b : Bool) | int (i : Int) | str (s : Str)
  | tup (xs : List D) | lst (xs : List D) | nw (xs : List D)
  | ref (n : Nat) | sl (i : Nat) | fl (n : Nat) (f : Str) | scr (ns : List Int)
  deriving Inhabited

/-- what stands at a slot or a field: a value; a list of its own; one that is walked just now -/
inductive SV where
  | val (d : D) | own (xs : List D) | lk (xs : List D)
  deriving Inhabited

/-- an object: an instance, or a list that others share -/
inductive HOb where
  | ins (C : Nat) (fs : List (Str × SV)) | box (xs : List D)
  deriving Inhabited

structure MSt where
  sl : List (Option SV)
  hp : List HOb

/-! ### outcomes -/
inductive Res (α : Type) where
  | ok (a : α) (s : MSt) | ex (c : Nat) (fs : List (Str × D)) (s : MSt) | stuck
inductive CRes where
  | ok (d : D) (hp : List HOb) | ex (c : Nat) (fs : List (Str × D)) (hp : List HOb) | stuck
inductive Out where
  | nx (s : MSt) | bk (s : MSt) | ct (s : MSt) | rt (d : D) (s : MSt) | ex (c : Nat) (fs : List (Str × D)) (s : MSt) | stuck

def Res.bind {α β : Type} (r : Res α) (k : α → MSt → Res β) : Res β :=
  match r with
  | .ok a s => k a s
  | .ex c fs s => .ex c fs s
  | .stuck => .stuck
def Res.toOut {α : Type} (r : Res α) (k : α → MSt → Out) : Out :=
  match r with
  | .ok a s => k a s
  | .ex c fs s => .ex c fs s
  | .stuck => .stuck
def Out.andThen (o : Out) (k : MSt → Out) : Out :=
  match o with
  | .nx s => k s
  | o => o
def opt {α : Type} (o : Option α) (s : MSt) : Res α :=
  match o with
  | some a => .ok a s
  | none => .stuck
def opt2 {α : Type} (o : Option (α × MSt)) : Res α :=
  match o with
  | some p => .ok p.1 p.2
  | none => .stuck
@[simp] theorem bind_ok {α β : Type} (a : α) (s : MSt) (k : α → MSt → Res β) : (Res.ok a s).bind k = k a s := rfl
@[simp] theorem bind_ex {α β : Type} (c : Nat) (fs : List (Str × D)) (s : MSt) (k : α → MSt → Res β) : (Res.ex c fs s).bind k = .ex c fs s := rfl
@[simp] theorem bind_stuck {α β : Type} (k : α → MSt → Res β) : (Res.stuck : Res α).bind k = .stuck := rfl
@[simp] theorem toOut_ok {α : Type} (a : α) (s : MSt) (k : α → MSt → Out) : (Res.ok a s).toOut k = k a s := rfl
@[simp] theorem toOut_ex {α : Type} (c : Nat) (fs : List (Str × D)) (s : MSt) (k : α → MSt → Out) : (Res.ex c fs s : Res α).toOut k = .ex c fs s := rfl
@[simp] theorem toOut_stuck {α : Type} (k : α → MSt → Out) : (Res.stuck : Res α).toOut k = .stuck := rfl
@[simp] theorem andThen_nx (s : MSt) (k : MSt → Out) : (Out.nx s).andThen k = k s := rfl
@[simp] theorem andThen_bk (s : MSt) (k : MSt → Out) : (Out.bk s).andThen k = .bk s := rfl
@[simp] theorem andThen_ct (s : MSt) (k : MSt → Out) : (Out.ct s).andThen k = .ct s := rfl
@[simp] theorem andThen_rt (d : D) (s : MSt) (k : MSt → Out) : (Out.rt d s).andThen k = .rt d s := rfl
@[simp] theorem andThen_ex (c : Nat) (fs : List (Str × D)) (s : MSt) (k : MSt → Out) : (Out.ex c fs s).andThen k = .ex c fs s := rfl
@[simp] theorem andThen_stuck (k : MSt → Out) : Out.stuck.andThen k = .stuck := rfl
@[simp] theorem opt_some {α : Type} (a : α) (s : MSt) : opt (some a) s = .ok a s := rfl
@[simp] theorem opt_none {α : Type} (s : MSt) : (opt none s : Res α) = .stuck := rfl
@[simp] theorem opt2_some {α : Type} (p : α × MSt) : opt2 (some p) = .ok p.1 p.2 := rfl
@[simp] theorem opt2_none {α : Type} : (opt2 none : Res α) = .stuck := rfl

/-! ### slots and fields -/
def MSt.setS (s : MSt) (i : Nat) (v : Option SV) : MSt := ⟨s.sl.set i v, s.hp⟩
def getS (s : MSt) (i : Nat) : Option SV := (s.sl[i]?).join
def putFld (f : Str) (v : SV) : List (Str × SV) → List (Str × SV)
  | [] => [(f, v)]
  | (g, w) :: r => if g = f then (g, v) :: r else (g, w) :: putFld f v r
def getF (hp : List HOb) (n : Nat) (f : Str) : Option SV :=
  match hp[n]? with
  | some (.ins _ fs) => fs.lookup f
  | _ => none
def setF (hp : List HOb) (n : Nat) (f : Str) (v : SV) : List HOb :=
  match hp[n]? with
  | some (.ins C fs) => hp.set n (.ins C (putFld f v fs))
  | _ => hp
def MSt.setFl (s : MSt) (n : Nat) (f : Str) (v : SV) : MSt := ⟨s.sl, setF s.hp n f v⟩

def svRead (v : SV) (d : D) : D :=
  match v with
  | .val x => x
  | _ => d
/-- a name's value -/
def readVar (i : Nat) (s : MSt) : Option D := (getS s i).map fun v => svRead v (.sl i)
def readFld (n : Nat) (f : Str) (s : MSt) : Option D := (getF s.hp n f).map fun v => svRead v (.fl n f)

/-- a value that is handed on: a list of one's own is frozen -/
def frz (d : D) (s : MSt) : Option (D × MSt) :=
  match d with
  | .nw xs => some (.lst xs, s)
  | .sl i =>
    match getS s i with
    | some (.own xs) => some (.lst xs, s.setS i (some (.val (.lst xs))))
    | some (.val x) => some (x, s)
    | _ => none
  | .fl n f =>
    match getF s.hp n f with
    | some (.own xs) => some (.lst xs, s.setFl n f (.val (.lst xs)))
    | _ => none
  | d => some (d, s)
def frzs : List D → MSt → Option (List D × MSt)
  | [], s => some ([], s)
  | d :: ds, s =>
    match frz d s with
    | none => none
    | some (x, s1) =>
      match frzs ds s1 with
      | none => none
      | some (xs, s2) => some (x :: xs, s2)

def svList : SV → Option (List D)
  | .own xs => some xs
  | .lk xs => some xs
  | .val (.lst xs) => some xs
  | _ => none
def flList : SV → Option (List D)
  | .own xs => some xs
  | .lk xs => some xs
  | _ => none
/-- what a list holds -/
def lview (d : D) (s : MSt) : Option (List D) :=
  match d with
  | .lst xs => some xs
  | .nw xs => some xs
  | .sl i => (getS s i).bind svList
  | .fl n f => (getF s.hp n f).bind flList
  | .ref n =>
    match s.hp[n]? with
    | some (.box xs) => some xs
    | _ => none
  | _ => none
/-- a list or a tuple -/
def sview (d : D) (s : MSt) : Option (List D) :=
  match d with
  | .tup xs => some xs
  | d => lview d s
/-- a list that may be changed -/
def oview (d : D) (s : MSt) : Option (List D) :=
  match d with
  | .sl i =>
    match getS s i with
    | some (.own xs) => some xs
    | _ => none
  | .fl n f =>
    match getF s.hp n f with
    | some (.own xs) => some xs
    | _ => none
  | .ref n =>
    match s.hp[n]? with
    | some (.box xs) => some xs
    | _ => none
  | _ => none
def oput (d : D) (xs : List D) (s : MSt) : MSt :=
  match d with
  | .sl i => s.setS i (some (.own xs))
  | .fl n f => s.setFl n f (.own xs)
  | .ref n => ⟨s.sl, s.hp.set n (.box xs)⟩
  | _ => s

/-! ### plain data -/
mutual
def D.py : D → PyData
  | .non => .none
  | .bl b => .bool b
  | .int i => .int i
  | .str s => .str s
  | .tup xs => .tuple (pys xs)
  | .lst xs => .list (pys xs)
  | .nw xs => .list (pys xs)
  | .ref _ => .none
  | .sl _ => .none
  | .fl _ _ => .none
  | .scr _ => .none
def pys : List D → List PyData
  | [] => []
  | x :: xs => x.py :: pys xs
end
mutual
/-- no object within -/
def D.pure : D → Bool
  | .ref _ => false
  | .sl _ => false
  | .fl _ _ => false
  | .nw _ => false
  | .scr _ => false
  | .tup xs => pures xs
  | .lst xs => pures xs
  | _ => true
def pures : List D → Bool
  | [] => true
  | x :: xs => x.pure && pures xs
end
/-- plain data that a value holds -/
def pview (d : D) (s : MSt) : Option PyData :=
  match d with
  | .nw xs => if pures xs then some (.list (pys xs)) else none
  | .sl _ => match lview d s with
    | some xs => if pures xs then some (.list (pys xs)) else none
    | none => none
  | .fl _ _ => match lview d s with
    | some xs => if pures xs then some (.list (pys xs)) else none
    | none => none
  | d => if d.pure then some d.py else none

/-! ### operators -/
def smallMul (i j : Int) : Bool := (decide (-(2 ^ 64) < i) && decide (i < 2 ^ 64)) || (decide (-(2 ^ 64) < j) && decide (j < 2 ^ 64))
def binI (op : Operator) (i j : Int) : Option Int :=
  match op with
  | .Add => some (i + j)
  | .Sub => some (i - j)
  | .Mult => if smallMul i j then some (i * j) else none
  | .Mod => if 0 < j then some (i % j) else none
  | .FloorDiv => if 0 < j ∧ j < 1073741824 then some (i / j) else none
  | .Pow => if 0 ≤ j ∧ j ≤ 1000000 ∧ i.natAbs < 2 ^ 64 then some (i ^ j.toNat) else none
  | _ => none
def binD (op : Operator) (x y : D) (s : MSt) : Option D :=
  match x, y with
  | .int i, .int j => (binI op i j).map .int
  | .str a, .str b => if op = .Add ∧ a.length + b.length ≤ sizeLine then some (.str (a ++ b)) else none
  | .tup xs, .tup ys => if op = .Add ∧ xs.length + ys.length ≤ sizeLine then some (.tup (xs ++ ys)) else none
  | x, .int k =>
    match lview x s with
    | some xs => if op = .Mult ∧ -(2 ^ 63) ≤ k ∧ k < 2 ^ 63 ∧ xs.length * k.toNat ≤ sizeLine then some (.nw (List.replicate k.toNat xs).flatten) else none
    | none => none
  | x, y =>
    match lview x s, lview y s with
    | some xs, some ys => if op = .Add ∧ xs.length + ys.length ≤ sizeLine then some (.nw (xs ++ ys)) else none
    | _, _ => none

def isNon : D → Bool
  | .non => true
  | _ => false
def isNonS (x : D) (s : MSt) : Option Bool :=
  match x with
  | .nw _ => some false
  | .sl i =>
    match getS s i with
    | some (.val d) => some (isNon d)
    | some _ => some false
    | none => none
  | .fl n f =>
    match getF s.hp n f with
    | some (.own _) => some false
    | some (.lk _) => some false
    | _ => none
  | x => some (isNon x)
/-- is None, is True, is False -/
def isD (x y : D) (s : MSt) : Option Bool :=
  match y with
  | .non => isNonS x s
  | .bl b =>
    match x with
    | .bl a => some (a == b)
    | _ => none
  | _ => none
def flatD : D → Bool
  | .non => true
  | .bl _ => true
  | .int _ => true
  | .str _ => true
  | _ => false
def cmpI (op : CmpOp) (i j : Int) : Option Bool :=
  match op with
  | .Lt => some (decide (i < j))
  | .LtE => some (decide (i ≤ j))
  | .Gt => some (decide (j < i))
  | .GtE => some (decide (j ≤ i))
  | _ => none
/-- == of single values -/
def eqS : D → D → Option Bool
  | .non, .non => some true | .non, .int _ => some false | .int _, .non => some false | .non, .bl _ => some false | .bl _, .non => some false
  | .non, .str _ => some false | .str _, .non => some false | .int a, .int b => some (a == b) | .bl a, .bl b => some (a == b) | .str a, .str b => some (a == b)
  | .int _, .str _ => some false | .str _, .int _ => some false | .bl _, .str _ => some false | .str _, .bl _ => some false
  | _, _ => none
def eqD (x y : D) (s : MSt) : Option Bool :=
  match eqS x y with
  | some b => some b
  | none =>
    match pview x s, pview y s with
    | some a, some b => if SeqAt.shaped a && SeqAt.shaped b then some (PyData.eqv a b) else none
    | _, _ => none
def eqF : D → D → Bool
  | .non, .non => true
  | .bl a, .bl b => a == b
  | .bl a, .int b => (if a then 1 else 0) == b
  | .int a, .bl b => a == (if b then 1 else 0)
  | .int a, .int b => a == b
  | .str a, .str b => a == b
  | _, _ => false
/-- data among data -/
def inP (p : Option PyData) (q : Option PyData) : Option Bool :=
  match p, q with
  | some p, some (.list ps) => if SeqAt.shaped p && SeqAt.shaped (.list ps) then some (ps.any fun z => PyData.eqv z p) else none
  | some p, some (.tuple ps) => if SeqAt.shaped p && SeqAt.shaped (.tuple ps) then some (ps.any fun z => PyData.eqv z p) else none
  | _, _ => none
def inD (x y : D) (s : MSt) : Option Bool :=
  match y with
  | .str b =>
    match x with
    | .str a => if a.cps.size = 1 then some (decide (a.cps.getD 0 0 ∈ b.cps.toList)) else some (!(Builtin.Str.occurrences b a 0 b.length 1).isEmpty)
    | _ => none
  | y =>
    match sview y s with
    | some ys => if flatD x && ys.all flatD then some (ys.any fun z => eqF z x) else inP (pview x s) (pview y s)
    | none => none
def cmpN (op : CmpOp) (x y : D) : Option Bool :=
  match x, y with
  | .int i, .int j => cmpI op i j
  | _, _ => none
def cmpD (op : CmpOp) (x y : D) (s : MSt) : Option Bool :=
  match op with
  | .Eq => eqD x y s
  | .NotEq => (eqD x y s).map (!·)
  | .Is => isD x y s
  | .IsNot => (isD x y s).map (!·)
  | .In => inD x y s
  | .NotIn => (inD x y s).map (!·)
  | op => cmpN op x y
/-- a value's truth -/
def truth (x : D) (s : MSt) : Option Bool :=
  match x with
  | .non => some false
  | .bl b => some b
  | .int i => some (i != 0)
  | .str y => if y.length ≤ sizeLine then some ((y.length : Int) != 0) else none
  | x => (sview x s).map fun xs => !xs.isEmpty
def ixD (x y : D) (s : MSt) : Option D :=
  match y with
  | .int i =>
    match x with
    | .str z => if z.length ≤ sizeLine then (L2.atI z.cps.toList i).map fun c => .str ⟨#[c]⟩ else none
    | .scr ns => (L2.atI ns i).map .int
    | x => (sview x s).bind fun xs => L2.atI xs i
  | _ => none
def cut {α : Type} (xs : List α) (lo hi : Option Int) : List α := (xs.drop (HT.sIx xs.length 0 lo)).take (HT.sIx xs.length xs.length hi - HT.sIx xs.length 0 lo)
def slcD (x : D) (lo hi : Option Int) (s : MSt) : Option D :=
  match x with
  | .tup xs => some (.tup (cut xs lo hi))
  | .str z => if z.length ≤ sizeLine then some (.str (L2.cutS z lo hi)) else none
  | x => (lview x s).map fun xs => .nw (cut xs lo hi)
/-- an int, or nothing -/
def part (d : D) : Option (Option Int) :=
  match d with
  | .int i => some (some i)
  | _ => none

/-! ### built-in functions and methods -/
inductive Bi where
  | len | int | str | sum | tuple | list | repr | min2 | max2 | min1 | max1
  deriving DecidableEq
def dints : List D → Option (List Int)
  | [] => some []
  | .int i :: r => (dints r).map (i :: ·)
  | _ :: _ => none
/-- data whose repr is short enough -/
def okR (p : PyData) : Bool := p.layable0 && p.intsShort 13 && p.showable
def biD (b : Bi) (ds : List D) (s : MSt) : Option D :=
  match b, ds with
  | .len, [.str z] => if z.length ≤ sizeLine then some (.int z.length) else none
  | .len, [.scr ns] => some (.int ns.length)
  | .len, [x] => (sview x s).map fun xs => .int xs.length
  | .int, [.int i] => some (.int i)
  | .int, [.bl k] => some (.int (if k then 1 else 0))
  | .str, [.int i] => if i.natAbs.log2 < 1920 then some (.str (toString i)) else none
  | .str, [.str z] => some (.str z)
  | .sum, [x] => ((lview x s).bind dints).map fun ns => .int ns.sum
  | .tuple, [.tup xs] => some (.tup xs)
  | .tuple, [x] => (lview x s).map .tup
  | .list, [x] => (sview x s).map .nw
  | .min2, [.int m, .int n] => some (.int (if n < m then n else m))
  | .max2, [.int m, .int n] => some (.int (if n > m then n else m))
  | .repr, [x] => (sview x s).bind fun _ => (pview x s).bind fun p => if okR p then some (.str p.shown) else none
  | _, _ => none

inductive Bm where
  | append | pop | popAt
  deriving DecidableEq
def bmD (m : Bm) (x : D) (ds : List D) (s : MSt) : Option (D × MSt) :=
  match m, ds with
  | .append, [d] => (oview x s).bind fun xs => if xs.length < sizeLine then some (.non, oput x (xs ++ [d]) s) else none
  | .pop, [] => (oview x s).bind fun xs => (xs[xs.length - 1]?).map fun y => (y, oput x xs.dropLast s)
  | .popAt, [.int i] => if -(2 ^ 63) ≤ i ∧ i < 2 ^ 63 then (oview x s).bind fun xs => (L2.ixN xs.length i).bind fun k => (xs[k]?).map fun y => (y, oput x (xs.eraseIdx k) s)
    else none
  | _, _ => none
/-- the receiver has the method's type -/
def bmK (m : Bm) (x : D) (s : MSt) : Option Unit :=
  match m with
  | _ => (lview x s).map fun _ => ()
/-- x[i] = d -/
def setIx (x i d : D) (s : MSt) : Option MSt :=
  match i with
  | .int k => (oview x s).bind fun xs => (L2.ixN xs.length k).map fun j => oput x (xs.set j d) s
  | _ => none

/-! ### the text -/
mutual
inductive E where
  | non | bl (b : Bool) | int (i : Int) | str (s : Str)
  | var (i : Nat) | glob (x : Str) (d : D)
  | bin (op : Operator) (a b : E) | neg (a : E) | not (c : C)
  | cmp (op : CmpOp) (a b : E) | chain (o1 o2 : CmpOp) (a b c : E)
  | bool (isAnd : Bool) (es : Es) (last : E) | ite (c : C) (a b : E)
  | ix (a i : E) | slc (a : E) (lo hi : P)
  | tup (es : Es) | lst (es : Es) | box (es : Es)
  | call (f : Nat) (es : Es) | bi (b : Bi) (es : Es) | bm (m : Bm) (a : E) (es : Es)
  | attr (C : Nat) (a : E) (f : Str) | meth (C m : Nat) (a : E) (es : Es) | mk (C m : Nat) (es : Es)
  | lc (elt : E) (t : T) (it : I) (ifs : Cs) (vs : List Nat)
inductive Es where
  | nil | cons (e : E) (es : Es)
/-- a test -/
inductive C where
  | of (e : E) | not (c : C) | bool (isAnd : Bool) (cs : Cs)
inductive Cs where
  | nil | cons (c : C) (cs : Cs)
inductive P where
  | absent | of (e : E)
inductive I where
  | of (e : E) | enum (e : E) | zip (a b : E) | rng (a : E) | rng2 (a b : E)
inductive T where
  | name (i : Nat) | tup (ts : Ts) | ix (a i : E) | attr (C : Nat) (a : E) (f : Str)
inductive Ts where
  | nil | cons (t : T) (ts : Ts)
end
mutual
inductive S where
  | expr (e : E) | asg (t : T) (e : E) | aug (i : Nat) (op : Operator) (e : E)
  | ite (c : C) (a b : Ss) | forr (t : T) (it : I) (body : Ss) | whl (c : C) (body : Ss)
  | ret (e : E) | retN | brk | cnt | pass | never | kill (is : List Nat)
inductive Ss where
  | nil | cons (s : S) (ss : Ss)
end

def Ts.len : Ts → Nat
  | .nil => 0
  | .cons _ ts => ts.len + 1

/-! ### walks -/
def lockD (d : D) (s : MSt) : MSt × Bool :=
  match d with
  | .sl i =>
    match getS s i with
    | some (.own xs) => (s.setS i (some (.lk xs)), true)
    | _ => (s, false)
  | .fl n f =>
    match getF s.hp n f with
    | some (.own xs) => (s.setFl n f (.lk xs), true)
    | _ => (s, false)
  | _ => (s, false)
def unlockD (d : D) (s : MSt) : MSt :=
  match d with
  | .sl i =>
    match getS s i with
    | some (.lk xs) => s.setS i (some (.own xs))
    | _ => s
  | .fl n f =>
    match getF s.hp n f with
    | some (.lk xs) => s.setFl n f (.own xs)
    | _ => s
  | _ => s
def enumD : Nat → List D → List D
  | _, [] => []
  | k, x :: xs => .tup [.int k, x] :: enumD (k + 1) xs
def zipD : List D → List D → List D
  | x :: xs, y :: ys => .tup [x, y] :: zipD xs ys
  | _, _ => []
def rngD (lo hi : Int) : List D := (List.range (hi - lo).toNat).map fun (k : Nat) => D.int (lo + (k : Int))
def strD (z : Str) : List D := z.cps.toList.map fun c => .str ⟨#[c]⟩

def forD (items : List D) (body : D → MSt → Out) (s : MSt) : Out :=
  match items with
  | [] => .nx s
  | x :: xs =>
    match body x s with
    | .nx s1 => forD xs body s1
    | .ct s1 => forD xs body s1
    | .bk s1 => .nx s1
    | o => o
def whileD (c : MSt → Res Bool) (body : MSt → Out) : Nat → MSt → Out
  | 0, _ => .stuck
  | n + 1, s => (c s).toOut fun b s1 =>
    if b then
      match body s1 with
      | .nx s2 => whileD c body n s2
      | .ct s2 => whileD c body n s2
      | .bk s2 => .nx s2
      | o => o
    else .nx s1
/-- the items of a comprehension -/
def lcD (items : List D) (turn : D → MSt → Res (Option D)) (acc : List D) (s : MSt) : Res (List D) :=
  match items with
  | [] => .ok acc s
  | x :: xs => (turn x s).bind fun o s1 =>
    match o with
    | some d => if acc.length < sizeLine then lcD xs turn (acc ++ [d]) s1 else .stuck
    | none => lcD xs turn acc s1
def kill : List Nat → MSt → MSt
  | [], s => s
  | i :: is, s => (kill is s).setS i none
/-- a list that is walked stands meanwhile -/
def fixD (lk : Bool) (x : D) (s : MSt) : Option (Bool × MSt) :=
  match x with
  | .nw _ => some (false, s)
  | .ref _ => none
  | x => if lk then some ((lockD x s).2, (lockD x s).1) else (frz x s).map fun p => (false, p.2)
/-- it stands at no slot of these -/
def lkFree (x : D) (vs : List Nat) : Bool :=
  match x with
  | .sl i => !vs.contains i
  | _ => true
def noEx {α : Type} : Res α → Res α
  | .ex _ _ _ => .stuck
  | r => r

/-- name = d -/
def storeS (i : Nat) (d : D) (s : MSt) : Option MSt :=
  match d with
  | .nw xs => some (s.setS i (some (.own xs)))
  | d => (frz d s).map fun p => p.2.setS i (some (.val p.1))
/-- the place of an instance of C -/
def insD (C : Nat) (x : D) (s : MSt) : Option Nat :=
  match x with
  | .ref n =>
    match s.hp[n]? with
    | some (.ins C' fs) => if C' = C ∧ fs.length < 1000 then some n else none
    | _ => none
  | _ => none
def storeN (n : Nat) (f : Str) (d : D) (s : MSt) : Option MSt :=
  match getF s.hp n f with
  | none =>
    match d with
    | .nw xs => some (s.setFl n f (.own xs))
    | d => (frz d s).map fun p => p.2.setFl n f (.val p.1)
  | some (.val _) => (frz d s).map fun p => p.2.setFl n f (.val p.1)
  | _ => none
def storeF (C : Nat) (o : D) (f : Str) (d : D) (s : MSt) : Option MSt := (insD C o s).bind fun n => storeN n f d s
def negD : D → Option D
  | .int i => some (.int (-i))
  | _ => none
def augD (op : Operator) (x y : D) : Option D :=
  match x, y with
  | .int a, .int b => if op = .Add then some (.int (a + b)) else if op = .Sub then some (.int (a - b)) else none
  | _, _ => none
def attrD (C : Nat) (x : D) (f : Str) (s : MSt) : Option D := (insD C x s).bind fun n => readFld n f s
/-- what can be walked: a list, a tuple, a text -/
def wview (x : D) (s : MSt) : Option (List D) :=
  match x with
  | .str z => some (strD z)
  | x => sview x s
def rngV (x y : D) : Option (List D) :=
  match x, y with
  | .int i, .int j => if (-(2 ^ 62) ≤ i ∧ i < 2 ^ 62) ∧ -(2 ^ 62) ≤ j ∧ j < 2 ^ 62 then some (rngD i j) else none
  | _, _ => none
def tupV : D → Option (List D)
  | .tup xs => some xs
  | _ => none

variable (F : Nat → List D → List HOb → CRes)
def callD (f : Nat) (ds : List D) (s : MSt) : Res D :=
  match F f ds s.hp with
  | .ok d hp => .ok d ⟨s.sl, hp⟩
  | .ex c fs hp => .ex c fs ⟨s.sl, hp⟩
  | .stuck => .stuck
mutual
def evE : E → MSt → Res D
  | .non, s => .ok .non s
  | .bl b, s => .ok (.bl b) s
  | .int i, s => .ok (.int i) s
  | .str z, s => .ok (.str z) s
  | .var i, s => opt (readVar i s) s
  | .glob _ d, s => .ok d s
  | .bin op a b, s => (evE a s).bind fun x s1 => (evE b s1).bind fun y s2 => opt (binD op x y s2) s2
  | .neg a, s => (evE a s).bind fun x s1 => opt (negD x) s1
  | .not c, s => (evC c s).bind fun b s1 => .ok (.bl (!b)) s1
  | .cmp op a b, s => (evE a s).bind fun x s1 => (evE b s1).bind fun y s2 => (opt (cmpD op x y s2) s2).bind fun k s3 => .ok (.bl k) s3
  | .chain o1 o2 a b c, s => (evE a s).bind fun x s1 => (evE b s1).bind fun y s2 => (opt (cmpD o1 x y s2) s2).bind fun k s3 =>
    if k then (evE c s3).bind fun z s4 => (opt (cmpD o2 y z s4) s4).bind fun k s5 => .ok (.bl k) s5 else .ok (.bl false) s3
  | .bool isAnd es last, s => evBool isAnd es (fun s1 => evE last s1) s
  | .ite c a b, s => (evC c s).bind fun k s1 => if k then evE a s1 else evE b s1
  | .ix a i, s => (evE a s).bind fun x s1 => (evE i s1).bind fun y s2 => opt (ixD x y s2) s2
  | .slc a lo hi, s => (evE a s).bind fun x s1 => (evP lo s1).bind fun l s2 => (evP hi s2).bind fun h s3 => opt (slcD x l h s3) s3
  | .tup es, s => (evFs es s).bind fun xs s2 => if xs.length ≤ sizeLine then .ok (.tup xs) s2 else .stuck
  | .lst es, s => (evFs es s).bind fun xs s2 => if xs.length ≤ sizeLine then .ok (.nw xs) s2 else .stuck
  | .box es, s => (evFs es s).bind fun xs s2 => if xs.length ≤ sizeLine then .ok (.ref s2.hp.length) ⟨s2.sl, s2.hp ++ [.box xs]⟩ else .stuck
  | .call f es, s => (evFs es s).bind fun xs s2 => callD F f xs s2
  | .bi b es, s => (evEs es s).bind fun ds s1 => opt (biD b ds s1) s1
  | .bm m a es, s => (evE a s).bind fun x s0 => (opt (bmK m x s0) s0).bind fun _ s0 => (evFs es s0).bind fun xs s2 => opt2 (bmD m x xs s2)
  | .attr C a f, s => (evE a s).bind fun x s1 => opt (attrD C x f s1) s1
  | .meth C m a es, s => (evE a s).bind fun x s0 => (opt (insD C x s0) s0).bind fun n s0 =>
    (evFs es s0).bind fun xs s2 => (opt (insD C x s2) s2).bind fun _ s2 => callD F m (.ref n :: xs) s2
  | .mk C m es, s => (evFs es s).bind fun xs s2 =>
    (callD F m (.ref s2.hp.length :: xs) ⟨s2.sl, s2.hp ++ [.ins C []]⟩).bind fun d s3 => if isNon d then .ok (.ref s2.hp.length) s3 else .stuck
  | .lc elt t it ifs vs, s => (evI true it s).bind fun p s1 => if lkFree p.2.1 vs then
    (lcD p.1 (fun x s2 => noEx ((asgT t x s2).bind fun _ s3 => (evCs true ifs s3).bind fun b s4 =>
      if b then (evE elt s4).bind fun d s5 => (opt2 (frz d s5)).bind fun y s6 => .ok (some y) (kill vs s6) else .ok none (kill vs s4))) [] (kill vs s1)).bind fun ds s3 =>
    .ok (.nw ds) (if p.2.2 then unlockD p.2.1 s3 else s3)
    else .stuck
def evC : C → MSt → Res Bool
  | .of e, s => (evE e s).bind fun x s1 => opt (truth x s1) s1
  | .not c, s => (evC c s).bind fun b s1 => .ok (!b) s1
  | .bool isAnd cs, s => evCs isAnd cs s
def evCs (isAnd : Bool) : Cs → MSt → Res Bool
  | .nil, s => .ok isAnd s
  | .cons c cs, s => (evC c s).bind fun b s1 => if b == isAnd then evCs isAnd cs s1 else .ok b s1
def evBool (isAnd : Bool) : Es → (MSt → Res D) → MSt → Res D
  | .nil, k, s => k s
  | .cons e es, k, s => (evE e s).bind fun x s1 => (opt (truth x s1) s1).bind fun b s2 => if b == isAnd then evBool isAnd es k s2 else .ok x s2
def evP : P → MSt → Res (Option Int)
  | .absent, s => .ok none s
  | .of e, s => (evE e s).bind fun x s1 => opt (part x) s1
def evEs : Es → MSt → Res (List D)
  | .nil, s => .ok [] s
  | .cons e es, s => (evE e s).bind fun x s1 => (evEs es s1).bind fun xs s2 => .ok (x :: xs) s2
/-- each frozen behind all -/
def evFs : Es → MSt → Res (List D)
  | .nil, s => .ok [] s
  | .cons e es, s => (evE e s).bind fun x s1 => (evFs es s1).bind fun xs s2 => (opt2 (frz x s2)).bind fun y s3 => .ok (y :: xs) s3
/-- the items that are walked, what is locked meanwhile (lk: a list of one's own is locked, else frozen) -/
def evI (lk : Bool) : I → MSt → Res (List D × D × Bool)
  | .of e, s => (evE e s).bind fun x s1 => (opt (wview x s1) s1).bind fun xs s2 => (opt2 (fixD lk x s2)).bind fun b s3 => .ok (xs, x, b) s3
  | .enum e, s => (evE e s).bind fun x s1 => (opt (sview x s1) s1).bind fun xs s2 => (opt2 (fixD lk x s2)).bind fun b s3 => .ok (enumD 0 xs, x, b) s3
  | .zip a b, s => (evE a s).bind fun x s1 => (evE b s1).bind fun y s2 => (opt2 (frz x s2)).bind fun x' s3 => (opt2 (frz y s3)).bind fun y' s4 =>
    (opt (sview x' s4) s4).bind fun xs s5 => (opt (sview y' s5) s5).bind fun ys s6 => .ok (zipD xs ys, .non, false) s6
  | .rng a, s => (evE a s).bind fun x s1 => (opt (rngV (.int 0) x) s1).bind fun xs s2 => .ok (xs, .non, false) s2
  | .rng2 a b, s => (evE a s).bind fun x s1 => (evE b s1).bind fun y s2 => (opt (rngV x y) s2).bind fun xs s2 => .ok (xs, .non, false) s2
def asgT : T → D → MSt → Res Unit
  | .name i, d, s => (opt (storeS i d s) s).bind fun s1 _ => .ok () s1
  | .tup ts, d, s => (opt (tupV d) s).bind fun xs s => if xs.length = ts.len then asgTs ts xs s else .stuck
  | .ix a i, d, s => (evE a s).bind fun x s1 => (evE i s1).bind fun y s2 => (opt2 (frz d s2)).bind fun z s3 => (opt (setIx x y z s3) s3).bind fun s4 _ => .ok () s4
  | .attr C a f, d, s => (evE a s).bind fun x s1 => (opt (storeF C x f d s1) s1).bind fun s2 _ => .ok () s2
def asgTs : Ts → List D → MSt → Res Unit
  | .nil, xs, s => if xs.isEmpty then .ok () s else .stuck
  | .cons t ts, xs, s => match xs with
    | [] => .stuck
    | x :: xs => (asgT t x s).bind fun _ s1 => asgTs ts xs s1
end

mutual
def evS : S → MSt → Out
  | .expr e, s => (evE F e s).toOut fun _ s1 => .nx s1
  | .asg t e, s => (evE F e s).toOut fun d s1 => (asgT F t d s1).toOut fun _ s2 => .nx s2
  | .aug i op e, s => (opt (readVar i s) s).toOut fun x s0 => (evE F e s0).toOut fun y s1 => (opt (augD op x y) s1).toOut fun z s2 => .nx (s2.setS i (some (.val z)))
  | .ite c a b, s => (evC F c s).toOut fun k s1 => if k then evSs a s1 else evSs b s1
  | .forr t it body, s => (evI F false it s).toOut fun p s1 => forD p.1 (fun x s2 => (asgT F t x s2).toOut fun _ s3 => evSs body s3) s1
  | .whl c body, s => whileD (fun s1 => evC F c s1) (fun s1 => evSs body s1) 1000000 s
  | .ret e, s => (evE F e s).toOut fun d s1 => .rt d s1
  | .retN, s => .rt .non s
  | .brk, s => .bk s
  | .cnt, s => .ct s
  | .pass, s => .nx s
  | .never, _ => .stuck
  | .kill is, s => .nx (kill is s)
def evSs : Ss → MSt → Out
  | .nil, s => .nx s
  | .cons st ss, s => (evS st s).andThen fun s1 => evSs ss s1
end

/-! ### calls -/
structure Fn where
  np : Nat
  ns : Nat
  body : Ss
mutual
/-- all objects within are among the first n -/
def D.bnd (n : Nat) : D → Bool
  | .ref m => decide (m < n)
  | .sl _ => false
  | .fl _ _ => false
  | .nw xs => bnds n xs
  | .tup xs => bnds n xs
  | .lst xs => bnds n xs
  | _ => true
def bnds (n : Nat) : List D → Bool
  | [] => true
  | x :: xs => x.bnd n && bnds n xs
end
def SV.bnd (n : Nat) : SV → Bool
  | .val d => d.bnd n
  | .own xs => bnds n xs
  | .lk xs => bnds n xs
def HOb.bnd (n : Nat) : HOb → Bool
  | .ins _ fs => fs.all fun p => p.2.bnd n
  | .box xs => bnds n xs
/-- objects that nobody can come to are forgotten -/
def gc (n : Nat) (d : D) (hp : List HOb) : List HOb := if d.bnd n && (hp.take n).all (·.bnd n) then hp.take n else hp
def finC (n : Nat) : Out → CRes
  | .nx s => .ok .non (gc n .non s.hp)
  | .rt d s =>
    match d with
    | .sl i =>
      match getS s i with
      | some (.own xs) => .ok (.nw xs) (gc n (.nw xs) s.hp)
      | some (.val x) => .ok x (gc n x s.hp)
      | _ => .stuck
    | .fl m f =>
      match frz (.fl m f) s with
      | some (x, s1) => .ok x (gc n x s1.hp)
      | none => .stuck
    | d => .ok d (gc n d s.hp)
  | .ex c fs s => .ex c fs s.hp
  | _ => .stuck
def startS (fn : Fn) (ds : List D) (hp : List HOb) : MSt := ⟨ds.map (fun d => some (.val d)) ++ List.replicate (fn.ns - fn.np) none, hp⟩
def runF (tab : Nat → Option Fn) : Nat → Nat → List D → List HOb → CRes
  | 0, _, _, _ => .stuck
  | n + 1, f, ds, hp =>
    match tab f with
    | none => .stuck
    | some fn => if ds.length = fn.np then finC hp.length (evSs (runF tab n) fn.body (startS fn ds hp)) else .stuck
end MP
end
section
set_option maxRecDepth 100000
set_option maxHeartbeats 1000000
/-! MPb: how the states of mini-Python lie in the layer's heap. -/
namespace MP
open PySem PySem.Spec PyProof.Rows L2

/-- whose a list is -/
inductive Own where
  | frz | tmp | lck | cell (n : Nat) | slot (i : Nat) | fld (n : Nat) (f : Str) | lks (i : Nat) | lkf (n : Nat) (f : Str)
  deriving DecidableEq
/-- owners that stay of this kind -/
def Own.old : Own → Bool
  | .tmp => false
  | .slot _ => false
  | .lks _ => false
  | _ => true
/-- owners whose lists nobody changes -/
def Own.fix : Own → Bool
  | .frz => true
  | .tmp => true
  | .lck => true
  | .lks _ => true
  | .lkf _ _ => true
  | _ => false
structure Wd where
  rho : List Addr
  own : Addr → Option Own
def Wd.put (w : Wd) (a : Addr) (o : Own) : Wd := ⟨w.rho, fun b => if b = a then some o else w.own b⟩
theorem put_same {w : Wd} {a : Addr} {o : Own} : (w.put a o).own a = some o := by simp [Wd.put]
theorem put_ne {w : Wd} {a b : Addr} {o : Own} (h : b ≠ a) : (w.put a o).own b = w.own b := by simp [Wd.put, h]

section
variable (K : PySem.W.Frag)
/-- a list that nobody changes -/
def FzL (w : Wd) (H : Hp) (a : Addr) (vs : List V) : Prop := w.own a = some .frz ∧ H a = some (.lst vs)
/-- the script's list -/
def ScL (H : Hp) (a : Addr) (vs : List V) : Prop :=
  (∃ o, H a = some (.frz o (.lst vs))) ∨
    ∃ (o : Obj) (its : Array Value) (n : Nat), K.lookup a = some o ∧ o.cls = .type "list" ∧ o.dict = none ∧ o.data = .seq its n ∧ its.size ≤ sizeLine ∧ Vals vs its.toList
mutual
/-- v is the solid value d -/
def Rv (w : Wd) (H : Hp) : D → V → Prop
  | .non, v => v = .non
  | .bl b, v => v = .bl b
  | .int i, v => v = .int i
  | .str z, v => v = .str z
  | .tup xs, v => ∃ a vs, v = .ref a ∧ SqT K H a vs ∧ Rvs w H xs vs
  | .lst xs, v => ∃ a vs, v = .ref a ∧ FzL w H a vs ∧ Rvs w H xs vs
  | .ref n, v => ∃ a, w.rho[n]? = some a ∧ v = .ref a
  | .scr ns, v => ∃ a, v = .ref a ∧ ScL K H a (ns.map V.int)
  | .nw _, _ => False
  | .sl _, _ => False
  | .fl _ _, _ => False
def Rvs (w : Wd) (H : Hp) : List D → List V → Prop
  | [], vs => vs = []
  | x :: xs, vs => ∃ v r, vs = v :: r ∧ Rv w H x v ∧ Rvs w H xs r
end
/-- a field's list, its own or locked -/
def Tk (w : Wd) (n : Nat) (f : Str) (v : V) : Prop := ∃ a, v = .ref a ∧ (w.own a = some (.fld n f) ∨ w.own a = some (.lkf n f))
/-- v is the value d, of a slot or a field, or new -/
def Rp (w : Wd) (σ : L2.St) (H : Hp) (d : D) (v : V) : Prop :=
  match d with
  | .nw xs => ∃ a vs, v = .ref a ∧ w.own a = some .tmp ∧ H a = some (.lst vs) ∧ Rvs K w H xs vs
  | .sl i => σ[i]? = some (some v)
  | .fl n f => ∃ r C dx fs u, w.rho[n]? = some r ∧ w.own r = some (.cell n) ∧ H r = some (.ins C dx fs) ∧ fs.lookup f = some u ∧ (Tk w n f u → u = v)
  | d => Rv K w H d v
def Rps (w : Wd) (σ : L2.St) (H : Hp) : List D → List V → Prop
  | [], vs => vs = []
  | x :: xs, vs => ∃ v r, vs = v :: r ∧ Rp K w σ H x v ∧ Rps w σ H xs r
end

/-- from (w, H) to (w', H'): with ex what is wanted of new lists besides -/
structure ExtB (tm : Bool) (w : Wd) (H : Hp) (w' : Wd) (H' : Hp) : Prop where
  rho : ∃ t, w'.rho = w.rho ++ t
  own : ∀ a o, w.own a = some o → o.fix = true → (o = .tmp → tm = true) → w'.own a = some o ∧ H' a = H a
  som : ∀ a o, w.own a = some o → ∃ o', w'.own a = some o'
  old : ∀ a o, w.own a = some o → o.old = true → ∃ o', w'.own a = some o' ∧ o'.old = true
  cell : ∀ a n, w.own a = some (.cell n) → w'.own a = some (.cell n)
  fld : ∀ r n C dx fs, w.own r = some (.cell n) → H r = some (.ins C dx fs) → ∃ fs', H' r = some (.ins C dx fs') ∧ ∀ f v, fs.lookup f = some v → ∃ v', fs'.lookup f = some v' ∧ (Tk w' n f v' → v' = v ∧ Tk w n f v)
  dom : ∀ a u, H a = some u → ∃ u', H' a = some u'
  tup : ∀ a vs, H a = some (.tup vs) → H' a = some (.tup vs)
  frz : ∀ a o u, H a = some (.frz o u) → H' a = some (.frz o u)
abbrev Ext := ExtB true
abbrev ExtS := ExtB false

section
variable {tm : Bool} {w w1 w2 : Wd} {H H1 H2 : Hp} {a : Addr}
theorem ExtB.refl : ExtB tm w H w H := ⟨⟨[], by simp⟩, fun _ _ h _ _ => ⟨h, rfl⟩, fun _ o h => ⟨o, h⟩, fun _ o h q => ⟨o, h, q⟩, fun _ _ h => h, fun _ _ _ _ fs _ h => ⟨fs, h, fun _ v q => ⟨v, q, fun t => ⟨rfl, t⟩⟩⟩, fun _ u h => ⟨u, h⟩, fun _ _ h => h, fun _ _ _ h => h⟩
theorem ExtB.trans (e : ExtB tm w H w1 H1) (g : ExtB tm w1 H1 w2 H2) : ExtB tm w H w2 H2 where
  rho := by
    obtain ⟨t, h⟩ := e.rho
    obtain ⟨u, k⟩ := g.rho
    exact ⟨t ++ u, by rw [k, h, List.append_assoc]⟩
  own := fun a o h q z => by
    obtain ⟨h1, k1⟩ := e.own a o h q z
    obtain ⟨h2, k2⟩ := g.own a o h1 q z
    exact ⟨h2, k2.trans k1⟩
  som := fun a o h => by
    obtain ⟨o1, h1⟩ := e.som a o h
    exact g.som a o1 h1
  old := fun a o h q => by
    obtain ⟨o1, h1, q1⟩ := e.old a o h q
    exact g.old a o1 h1 q1
  cell := fun a n h => g.cell a n (e.cell a n h)
  fld := fun r n C dx fs h k => by
    obtain ⟨f1, h1, k1⟩ := e.fld r n C dx fs h k
    obtain ⟨f2, h2, k2⟩ := g.fld r n C dx f1 (e.cell r n h) h1
    refine ⟨f2, h2, fun f v q => ?_⟩
    obtain ⟨v1, q1, t1⟩ := k1 f v q
    obtain ⟨v2, q2, t2⟩ := k2 f v1 q1
    refine ⟨v2, q2, fun t => ?_⟩
    obtain ⟨z2, y2⟩ := t2 t
    obtain ⟨z1, y1⟩ := t1 y2
    exact ⟨z2.trans z1, y1⟩
  dom := fun a u h => by
    obtain ⟨u1, h1⟩ := e.dom a u h
    exact g.dom a u1 h1
  tup := fun a vs h => g.tup a vs (e.tup a vs h)
  frz := fun a o u h => g.frz a o u (e.frz a o u h)
theorem ExtB.weak (e : Ext w H w1 H1) : ExtS w H w1 H1 := ⟨e.rho, fun a o h q z => e.own a o h q fun _ => rfl, e.som, e.old, e.cell, e.fld, e.dom, e.tup, e.frz⟩
theorem ExtB.any (e : Ext w H w1 H1) : ExtB tm w H w1 H1 := ⟨e.rho, fun a o h q z => e.own a o h q fun _ => rfl, e.som, e.old, e.cell, e.fld, e.dom, e.tup, e.frz⟩
theorem ExtB.rho_get (e : ExtB tm w H w1 H1) {n : Nat} (h : w.rho[n]? = some a) : w1.rho[n]? = some a := by
  obtain ⟨t, k⟩ := e.rho
  rw [k]
  exact (List.getElem?_append_left (List.getElem?_eq_some_iff.mp h).1).trans h
/-- what was not there and is new has no owner before -/
theorem ExtB.fresh (e : ExtB tm w H w1 H1) (dm : ∀ a o, w.own a = some o → ∃ u, H a = some u) (h : H1 a = none) : w.own a = none := by
  cases q : w.own a with
  | none => rfl
  | some o =>
    obtain ⟨u, hu⟩ := dm a o q
    obtain ⟨u', hu'⟩ := e.dom a u hu
    rw [h] at hu'
    cases hu'
end

section
variable {K : PySem.W.Frag} {tm : Bool} {w w1 w2 : Wd} {H H1 H2 : Hp} {σ : L2.St}
theorem SqT.ext {a : Addr} {vs : List V} (e : ExtB tm w H w1 H1) (h : SqT K H a vs) : SqT K H1 a vs := by
  rcases h with (h | ⟨o, h⟩) | h
  · exact .inl (.inl (e.tup _ _ h))
  · exact .inl (.inr ⟨o, e.frz _ _ _ h⟩)
  · exact .inr h
theorem FzL.ext {a : Addr} {vs : List V} (e : ExtB tm w H w1 H1) (h : FzL w H a vs) : FzL w1 H1 a vs := by
  obtain ⟨h, k⟩ := h
  obtain ⟨h1, h2⟩ := e.own _ _ h rfl (fun z => nomatch z)
  exact ⟨h1, h2.trans k⟩
theorem ScL.ext {a : Addr} {vs : List V} (e : ExtB tm w H w1 H1) (h : ScL K H a vs) : ScL K H1 a vs := by
  rcases h with ⟨o, h⟩ | h
  · exact .inl ⟨o, e.frz _ _ _ h⟩
  · exact .inr h
theorem ScL.sq {a : Addr} {vs : List V} (h : ScL K H a vs) : SqL K H a vs := by
  rcases h with ⟨o, h⟩ | h
  · exact .inl (.inr ⟨o, h⟩)
  · exact .inr h
mutual
theorem Rv.ext (e : ExtB tm w H w1 H1) : ∀ {d : D} {v : V}, Rv K w H d v → Rv K w1 H1 d v
  | .non, _, h => by unfold Rv at h ⊢; exact h
  | .bl _, _, h => by unfold Rv at h ⊢; exact h
  | .int _, _, h => by unfold Rv at h ⊢; exact h
  | .str _, _, h => by unfold Rv at h ⊢; exact h
  | .tup xs, _, h => by
    unfold Rv at h ⊢
    obtain ⟨a, vs, h1, h2, h3⟩ := h
    exact ⟨a, vs, h1, SqT.ext e h2, Rvs.ext e h3⟩
  | .lst xs, _, h => by
    unfold Rv at h ⊢
    obtain ⟨a, vs, h1, h2, h3⟩ := h
    exact ⟨a, vs, h1, FzL.ext e h2, Rvs.ext e h3⟩
  | .ref n, _, h => by
    unfold Rv at h ⊢
    obtain ⟨a, h1, h2⟩ := h
    exact ⟨a, e.rho_get h1, h2⟩
  | .scr ns, _, h => by
    unfold Rv at h ⊢
    obtain ⟨a, h1, h2⟩ := h
    exact ⟨a, h1, ScL.ext e h2⟩
  | .nw _, _, h => by unfold Rv at h; exact h.elim
  | .sl _, _, h => by unfold Rv at h; exact h.elim
  | .fl _ _, _, h => by unfold Rv at h; exact h.elim
theorem Rvs.ext (e : ExtB tm w H w1 H1) : ∀ {ds : List D} {vs : List V}, Rvs K w H ds vs → Rvs K w1 H1 ds vs
  | [], _, h => by unfold Rvs at h ⊢; exact h
  | x :: xs, _, h => by
    unfold Rvs at h ⊢
    obtain ⟨v, r, h1, h2, h3⟩ := h
    exact ⟨v, r, h1, Rv.ext e h2, Rvs.ext e h3⟩
end
theorem Rvs.nil {vs : List V} (h : Rvs K w H [] vs) : vs = [] := by unfold Rvs at h; exact h
theorem Rvs.mk0 : Rvs K w H [] [] := by unfold Rvs; rfl
theorem Rvs.mk {x : D} {xs : List D} {v : V} {vs : List V} (h : Rv K w H x v) (k : Rvs K w H xs vs) : Rvs K w H (x :: xs) (v :: vs) := by
  unfold Rvs
  exact ⟨v, vs, rfl, h, k⟩
theorem Rvs.cons {x : D} {xs : List D} {vs : List V} (h : Rvs K w H (x :: xs) vs) : ∃ v r, vs = v :: r ∧ Rv K w H x v ∧ Rvs K w H xs r := by unfold Rvs at h; exact h
theorem Rvs.length : ∀ {ds : List D} {vs : List V}, Rvs K w H ds vs → vs.length = ds.length
  | [], _, h => by rw [h.nil]; rfl
  | x :: xs, _, h => by
    obtain ⟨v, r, rfl, _, h3⟩ := h.cons
    simp [Rvs.length h3]
theorem Rvs.get : ∀ {ds : List D} {vs : List V} {i : Nat} {d : D}, Rvs K w H ds vs → ds[i]? = some d → ∃ v, vs[i]? = some v ∧ Rv K w H d v
  | [], _, _, _, _, e => by simp at e
  | x :: xs, _, 0, _, h, e => by
    obtain ⟨v, r, rfl, h2, _⟩ := h.cons
    simp at e
    subst e
    exact ⟨v, rfl, h2⟩
  | x :: xs, _, i + 1, _, h, e => by
    obtain ⟨v, r, rfl, _, h3⟩ := h.cons
    obtain ⟨u, h1, h2⟩ := Rvs.get (i := i) h3 (by simpa using e)
    exact ⟨u, by simpa using h1, h2⟩
theorem Rvs.get' : ∀ {ds : List D} {vs : List V} {i : Nat} {v : V}, Rvs K w H ds vs → vs[i]? = some v → ∃ d, ds[i]? = some d ∧ Rv K w H d v
  | [], _, _, _, h, e => by rw [h.nil] at e; simp at e
  | x :: xs, _, 0, _, h, e => by
    obtain ⟨v, r, rfl, h2, _⟩ := h.cons
    simp at e
    subst e
    exact ⟨x, rfl, h2⟩
  | x :: xs, _, i + 1, _, h, e => by
    obtain ⟨v, r, rfl, _, h3⟩ := h.cons
    obtain ⟨u, h1, h2⟩ := Rvs.get' (i := i) h3 (by simpa using e)
    exact ⟨u, by simpa using h1, h2⟩
theorem Rvs.append : ∀ {ds es : List D} {vs us : List V}, Rvs K w H ds vs → Rvs K w H es us → Rvs K w H (ds ++ es) (vs ++ us)
  | [], _, _, _, h, k => by rw [h.nil]; exact k
  | x :: xs, _, _, _, h, k => by
    obtain ⟨v, r, rfl, h2, h3⟩ := h.cons
    exact Rvs.mk h2 (Rvs.append h3 k)
theorem Rvs.take : ∀ {ds : List D} {vs : List V} (n : Nat), Rvs K w H ds vs → Rvs K w H (ds.take n) (vs.take n)
  | _, _, 0, _ => by simp; exact Rvs.mk0
  | [], _, n + 1, h => by rw [h.nil]; exact Rvs.mk0
  | x :: xs, _, n + 1, h => by
    obtain ⟨v, r, rfl, h2, h3⟩ := h.cons
    exact Rvs.mk h2 (Rvs.take n h3)
theorem Rvs.drop : ∀ {ds : List D} {vs : List V} (n : Nat), Rvs K w H ds vs → Rvs K w H (ds.drop n) (vs.drop n)
  | _, _, 0, h => by simpa using h
  | [], _, n + 1, h => by rw [h.nil]; exact Rvs.mk0
  | x :: xs, _, n + 1, h => by
    obtain ⟨v, r, rfl, _, h3⟩ := h.cons
    simpa using Rvs.drop n h3
theorem Rvs.set {d : D} {v : V} (r : Rv K w H d v) : ∀ {ds : List D} {vs : List V} (i : Nat), Rvs K w H ds vs → Rvs K w H (ds.set i d) (vs.set i v)
  | [], _, _, h => by rw [h.nil]; exact Rvs.mk0
  | x :: xs, _, 0, h => by
    obtain ⟨u, q, rfl, _, h3⟩ := h.cons
    exact Rvs.mk r h3
  | x :: xs, _, i + 1, h => by
    obtain ⟨u, q, rfl, h2, h3⟩ := h.cons
    exact Rvs.mk h2 (Rvs.set r i h3)
theorem Rvs.eraseIdx : ∀ {ds : List D} {vs : List V} (i : Nat), Rvs K w H ds vs → Rvs K w H (ds.eraseIdx i) (vs.eraseIdx i)
  | [], _, _, h => by rw [h.nil]; exact Rvs.mk0
  | x :: xs, _, 0, h => by
    obtain ⟨u, q, rfl, _, h3⟩ := h.cons
    exact h3
  | x :: xs, _, i + 1, h => by
    obtain ⟨u, q, rfl, h2, h3⟩ := h.cons
    exact Rvs.mk h2 (Rvs.eraseIdx i h3)
theorem Rvs.replicate {ds : List D} {vs : List V} (h : Rvs K w H ds vs) : ∀ n : Nat, Rvs K w H (List.replicate n ds).flatten (List.replicate n vs).flatten
  | 0 => Rvs.mk0
  | n + 1 => by
    rw [List.replicate_succ, List.replicate_succ, List.flatten_cons, List.flatten_cons]
    exact h.append (Rvs.replicate h n)

/-- an expression's end holds on -/
theorem Rv.rp {d : D} {v : V} (h : Rv K w H d v) : Rp K w σ H d v := by
  cases d with
  | nw xs => unfold Rv at h; exact h.elim
  | sl i => unfold Rv at h; exact h.elim
  | fl n f => unfold Rv at h; exact h.elim
  | _ => exact h
/-- a value that needs no freezing -/
def D.hard : D → Bool
  | .nw _ => false
  | .sl _ => false
  | .fl _ _ => false
  | _ => true
theorem Rp.hard {d : D} {v : V} (h : Rp K w σ H d v) (q : d.hard = true) : Rv K w H d v := by
  cases d with
  | nw xs => cases q
  | sl i => cases q
  | fl n f => cases q
  | _ => exact h
theorem Rp.ext (e : Ext w H w1 H1) {d : D} {v : V} (h : Rp K w σ H d v) : Rp K w1 σ H1 d v := by
  cases d with
  | nw xs =>
    obtain ⟨a, vs, h1, h2, h3, h4⟩ := h
    obtain ⟨k1, k2⟩ := e.own a _ h2 rfl fun _ => rfl
    exact ⟨a, vs, h1, k1, k2.trans h3, h4.ext e⟩
  | sl i => exact h
  | fl n f =>
    obtain ⟨r, C, dx, fs, u, h1, h2, h3, h4, h5⟩ := h
    obtain ⟨fs', k1, k2⟩ := e.fld r n C dx fs h2 h3
    obtain ⟨u', k3, k4⟩ := k2 f u h4
    refine ⟨r, C, dx, fs', u', e.rho_get h1, e.cell _ _ h2, k1, k3, fun t => ?_⟩
    obtain ⟨z, y⟩ := k4 t
    exact z.trans (h5 y)
  | _ => exact Rv.rp (Rv.ext e (Rp.hard h rfl))
theorem Rps.ext (e : Ext w H w1 H1) : ∀ {ds : List D} {vs : List V}, Rps K w σ H ds vs → Rps K w1 σ H1 ds vs
  | [], _, h => h
  | x :: xs, _, h => by
    obtain ⟨v, r, h1, h2, h3⟩ := h
    exact ⟨v, r, h1, h2.ext e, Rps.ext e h3⟩
end
end MP
end
section
set_option maxRecDepth 100000
set_option maxHeartbeats 1000000
set_option autoImplicit false
/-! MPc: a state of mini-Python in the layer's heap, and what each step does to it. -/
namespace MP
open PySem PySem.Spec PyProof.Rows L2

/-- what solid values lean on stands -/
structure Pre (w : Wd) (H : Hp) (w' : Wd) (H' : Hp) : Prop where
  rho : ∀ (n : Nat) (a : Addr), w.rho[n]? = some a → w'.rho[n]? = some a
  own : ∀ a vs, w.own a = some .frz → H a = some (.lst vs) → w'.own a = some .frz ∧ H' a = some (.lst vs)
  tup : ∀ a vs, H a = some (.tup vs) → H' a = some (.tup vs)
  frz : ∀ a o u, H a = some (.frz o u) → H' a = some (.frz o u)
section
variable {K : PySem.W.Frag} {tm : Bool} {w w1 w2 : Wd} {H H1 H2 : Hp} {σ : L2.St}
theorem ExtB.pre (e : ExtB tm w H w1 H1) : Pre w H w1 H1 := ⟨fun _ _ h => e.rho_get h, fun a vs h k => by
  obtain ⟨h1, h2⟩ := e.own a _ h rfl fun z => nomatch z
  exact ⟨h1, h2.trans k⟩, e.tup, e.frz⟩
theorem SqT.pre {a : Addr} {vs : List V} (e : Pre w H w1 H1) (h : SqT K H a vs) : SqT K H1 a vs := by
  rcases h with (h | ⟨o, h⟩) | h
  · exact .inl (.inl (e.tup _ _ h))
  · exact .inl (.inr ⟨o, e.frz _ _ _ h⟩)
  · exact .inr h
theorem FzL.pre {a : Addr} {vs : List V} (e : Pre w H w1 H1) (h : FzL w H a vs) : FzL w1 H1 a vs := e.own a vs h.1 h.2
theorem ScL.pre {a : Addr} {vs : List V} (e : Pre w H w1 H1) (h : ScL K H a vs) : ScL K H1 a vs := by
  rcases h with ⟨o, h⟩ | h
  · exact .inl ⟨o, e.frz _ _ _ h⟩
  · exact .inr h
mutual
theorem Rv.pre (e : Pre w H w1 H1) : ∀ {d : D} {v : V}, Rv K w H d v → Rv K w1 H1 d v
  | .non, _, h => by unfold Rv at h ⊢; exact h
  | .bl _, _, h => by unfold Rv at h ⊢; exact h
  | .int _, _, h => by unfold Rv at h ⊢; exact h
  | .str _, _, h => by unfold Rv at h ⊢; exact h
  | .tup xs, _, h => by
    unfold Rv at h ⊢
    obtain ⟨a, vs, h1, h2, h3⟩ := h
    exact ⟨a, vs, h1, SqT.pre e h2, Rvs.pre e h3⟩
  | .lst xs, _, h => by
    unfold Rv at h ⊢
    obtain ⟨a, vs, h1, h2, h3⟩ := h
    exact ⟨a, vs, h1, FzL.pre e h2, Rvs.pre e h3⟩
  | .ref n, _, h => by
    unfold Rv at h ⊢
    obtain ⟨a, h1, h2⟩ := h
    exact ⟨a, e.rho _ _ h1, h2⟩
  | .scr ns, _, h => by
    unfold Rv at h ⊢
    obtain ⟨a, h1, h2⟩ := h
    exact ⟨a, h1, ScL.pre e h2⟩
  | .nw _, _, h => by unfold Rv at h; exact h.elim
  | .sl _, _, h => by unfold Rv at h; exact h.elim
  | .fl _ _, _, h => by unfold Rv at h; exact h.elim
theorem Rvs.pre (e : Pre w H w1 H1) : ∀ {ds : List D} {vs : List V}, Rvs K w H ds vs → Rvs K w1 H1 ds vs
  | [], _, h => by unfold Rvs at h ⊢; exact h
  | x :: xs, _, h => by
    obtain ⟨v, r, rfl, h2, h3⟩ := h.cons
    exact Rvs.mk (Rv.pre e h2) (Rvs.pre e h3)
end
end

section
variable (K : PySem.W.Frag) (cls : Nat → Addr)
/-- what stands at a slot or a field; ow, lk: its owner, its lock -/
def SVok (w : Wd) (H : Hp) (ow lk : Own) (sv : SV) (v : V) : Prop :=
  match sv with
  | .val d => Rv K w H d v
  | .own xs => ∃ a vs, v = .ref a ∧ w.own a = some ow ∧ H a = some (.lst vs) ∧ Rvs K w H xs vs
  | .lk xs => ∃ a vs, v = .ref a ∧ w.own a = some lk ∧ H a = some (.lst vs) ∧ Rvs K w H xs vs
abbrev Flds (w : Wd) (H : Hp) (n : Nat) : List (Str × SV) → List (Str × V) → Prop :=
  Paired fun (p : Str × SV) (q : Str × V) => p.1 = q.1 ∧ SVok K w H (.fld n p.1) (.lkf n p.1) p.2 q.2
def ObOk (w : Wd) (H : Hp) (n : Nat) (ob : HOb) (r : Addr) : Prop :=
  match ob with
  | .box xs => ∃ vs, H r = some (.lst vs) ∧ Rvs K w H xs vs
  | .ins C fs => ∃ dx fvs, H r = some (.ins (cls C) dx fvs) ∧ Flds K w H n fs fvs ∧ (fs.map (·.1)).Nodup
def SV.has : SV → Bool
  | .val _ => false
  | _ => true
structure HR (w : Wd) (hp : List HOb) (H : Hp) : Prop where
  rl : w.rho.length = hp.length
  dom : ∀ a o, w.own a = some o → ∃ u, H a = some u
  tok : ∀ a n f, (w.own a = some (.fld n f) ∨ w.own a = some (.lkf n f)) → (∃ sv, getF hp n f = some sv ∧ sv.has = true) ∧ ∀ r C dx fvs, w.rho[n]? = some r → H r = some (.ins C dx fvs) → fvs.lookup f = some (.ref a)
  objs : ∀ n ob, hp[n]? = some ob → ∃ r, w.rho[n]? = some r ∧ w.own r = some (.cell n) ∧ ObOk K cls w H n ob r
structure SR (w : Wd) (s : MSt) (σ : L2.St) (H : Hp) : Prop where
  hr : HR K cls w s.hp H
  sl : s.sl.length = σ.length
  slots : ∀ i sv, s.sl[i]? = some (some sv) → ∃ v, σ[i]? = some (some v) ∧ SVok K w H (.slot i) (.lks i) sv v
end

section
variable {K : PySem.W.Frag} {cls : Nat → Addr} {tm : Bool} {w w1 w2 : Wd} {H H1 H2 : Hp} {σ : L2.St} {s : MSt} {hp : List HOb}
theorem getS_of {i : Nat} {sv : SV} (h : getS s i = some sv) : s.sl[i]? = some (some sv) := by
  unfold getS at h
  cases e : s.sl[i]? with
  | none => rw [e] at h; cases h
  | some o => rw [e] at h; simp at h; rw [h]
theorem getS_eq {i : Nat} {sv : SV} (h : s.sl[i]? = some (some sv)) : getS s i = some sv := by
  unfold getS
  rw [h]
  rfl
theorem flds_get {n : Nat} {f : Str} {sv : SV} : ∀ {fs : List (Str × SV)} {fvs : List (Str × V)}, Flds K w H n fs fvs → fs.lookup f = some sv → ∃ v, fvs.lookup f = some v ∧ SVok K w H (.fld n f) (.lkf n f) sv v
  | _, _, .nil, e => by simp at e
  | (g, x) :: fs, (g', v) :: fvs, .cons ⟨r1, r2⟩ t, e => by
    have r1' : g = g' := r1
    subst r1'
    rw [List.lookup_cons] at e ⊢
    cases q : f == g with
    | true =>
      rw [q] at e
      have z : f = g := eq_of_beq q
      subst z
      cases e
      exact ⟨v, rfl, r2⟩
    | false =>
      rw [q] at e
      exact flds_get t e
theorem flds_get' {n : Nat} {f : Str} {v : V} : ∀ {fs : List (Str × SV)} {fvs : List (Str × V)}, Flds K w H n fs fvs → fvs.lookup f = some v → ∃ sv, fs.lookup f = some sv ∧ SVok K w H (.fld n f) (.lkf n f) sv v
  | _, _, .nil, e => by simp at e
  | (g, x) :: fs, (g', v) :: fvs, .cons ⟨r1, r2⟩ t, e => by
    have r1' : g = g' := r1
    subst r1'
    rw [List.lookup_cons] at e ⊢
    cases q : f == g with
    | true =>
      rw [q] at e
      have z : f = g := eq_of_beq q
      subst z
      cases e
      exact ⟨x, rfl, r2⟩
    | false =>
      rw [q] at e
      exact flds_get' t e
theorem flds_none {n : Nat} {f : Str} : ∀ {fs : List (Str × SV)} {fvs : List (Str × V)}, Flds K w H n fs fvs → fs.lookup f = none → fvs.lookup f = none
  | _, _, .nil, _ => rfl
  | (g, x) :: fs, (g', v) :: fvs, .cons ⟨r1, r2⟩ t, e => by
    have r1' : g = g' := r1
    subst r1'
    rw [List.lookup_cons] at e ⊢
    cases q : f == g with
    | true => rw [q] at e; cases e
    | false => rw [q] at e; exact flds_none t e
theorem flds_imp {n : Nat} {w1 : Wd} {H1 : Hp} (g : ∀ f sv v, SVok K w H (.fld n f) (.lkf n f) sv v → SVok K w1 H1 (.fld n f) (.lkf n f) sv v) : ∀ {fs : List (Str × SV)} {fvs : List (Str × V)}, Flds K w H n fs fvs → Flds K w1 H1 n fs fvs
  | _, _, .nil => .nil
  | (f, x) :: fs, (g', v) :: fvs, .cons ⟨r1, r2⟩ t => .cons ⟨r1, g _ _ _ r2⟩ (flds_imp g t)
theorem flds_put {n : Nat} {f : Str} {sv : SV} {v : V} {w1 : Wd} {H1 : Hp} (new : SVok K w1 H1 (.fld n f) (.lkf n f) sv v) (g : ∀ g sv v, g ≠ f → SVok K w H (.fld n g) (.lkf n g) sv v → SVok K w1 H1 (.fld n g) (.lkf n g) sv v) :
    ∀ {fs : List (Str × SV)} {fvs : List (Str × V)}, Flds K w H n fs fvs → (fs.map (·.1)).Nodup → Flds K w1 H1 n (putFld f sv fs) (putF f v fvs)
  | _, _, .nil, _ => .cons ⟨rfl, new⟩ .nil
  | (k, x) :: fs, (k', y) :: fvs, .cons ⟨r1, r2⟩ t, nd => by
    have r1' : k = k' := r1
    subst r1'
    have nd' : k ∉ fs.map (·.1) ∧ (fs.map (·.1)).Nodup := by simpa using nd
    show Flds K w1 H1 n (if k = f then (k, sv) :: fs else (k, x) :: putFld f sv fs) (if k = f then (k, v) :: fvs else (k, y) :: putF f v fvs)
    by_cases e : k = f
    · rw [if_pos e, if_pos e]
      subst e
      refine .cons ⟨rfl, new⟩ (flds_restI g nd'.1 t)
    · rw [if_neg e, if_neg e]
      exact .cons ⟨rfl, g k x y e r2⟩ (flds_put new g t nd'.2)
where
  flds_restI {n : Nat} {f : Str} {w1 : Wd} {H1 : Hp} (g : ∀ g sv v, g ≠ f → SVok K w H (.fld n g) (.lkf n g) sv v → SVok K w1 H1 (.fld n g) (.lkf n g) sv v) :
      ∀ {fs : List (Str × SV)} {fvs : List (Str × V)}, f ∉ fs.map (·.1) → Flds K w H n fs fvs → Flds K w1 H1 n fs fvs
    | _, _, _, .nil => .nil
    | (k, x) :: fs, (k', y) :: fvs, nin, .cons ⟨r1, r2⟩ t => by
      have h : ¬ f = k ∧ f ∉ fs.map (·.1) := by simpa using nin
      exact .cons ⟨r1, g k x y (fun z => h.1 z.symm) r2⟩ (flds_restI g h.2 t)
end
end MP
end
section
set_option maxRecDepth 100000
set_option maxHeartbeats 1000000
set_option autoImplicit false
/-! MPd: the steps of a state. -/
namespace MP
open PySem PySem.Spec PyProof.Rows L2
theorem getF_ob {hp : List HOb} {n : Nat} {f : Str} {sv : SV} (h : getF hp n f = some sv) : ∃ C fs, hp[n]? = some (.ins C fs) := by
  unfold getF at h
  split at h
  · exact ⟨_, _, by assumption⟩
  · cases h
/-- only new things came -/
structure Keep (w : Wd) (H : Hp) (w1 : Wd) (H1 : Hp) : Prop where
  rho : w1.rho = w.rho
  own : ∀ a o, w.own a = some o → w1.own a = some o
  new : ∀ a o, w1.own a = some o → w.own a = some o ∨ o = .tmp
  val : ∀ a u, H a = some u → H1 a = some u
  dom : ∀ a o, w1.own a = some o → ∃ u, H1 a = some u
section
variable {K : PySem.W.Frag} {cls : Nat → Addr} {tm : Bool} {w w1 w2 : Wd} {H H1 H2 : Hp} {σ : L2.St} {s s1 : MSt} {hp : List HOb}
theorem Keep.tk (k : Keep w H w1 H1) {n : Nat} {f : Str} {v : V} (t : Tk w1 n f v) : Tk w n f v := by
  obtain ⟨a, rfl, h⟩ := t
  refine ⟨a, rfl, ?_⟩
  rcases h with h | h
  · rcases k.new a _ h with q | q
    · exact .inl q
    · cases q
  · rcases k.new a _ h with q | q
    · exact .inr q
    · cases q
theorem Keep.ext (k : Keep w H w1 H1) (dm : ∀ a o, w.own a = some o → ∃ u, H a = some u) : ExtB tm w H w1 H1 where
  rho := ⟨[], by simp [k.rho]⟩
  own := fun a o h _ _ => by
    obtain ⟨u, hu⟩ := dm a o h
    exact ⟨k.own a o h, (k.val a u hu).trans hu.symm⟩
  som := fun a o h => ⟨o, k.own a o h⟩
  old := fun a o h q => ⟨o, k.own a o h, q⟩
  cell := fun a n h => k.own a _ h
  fld := fun r n C dx fs h q => ⟨fs, k.val r _ q, fun f v z => ⟨v, z, fun t => ⟨rfl, k.tk t⟩⟩⟩
  dom := fun a u h => ⟨u, k.val a u h⟩
  tup := fun a vs h => k.val a _ h
  frz := fun a o u h => k.val a _ h
theorem SVok.to {ow lk : Own} {sv : SV} {v : V} (p : Pre w H w1 H1) (ho : ∀ a vs, w.own a = some ow → H a = some (.lst vs) → w1.own a = some ow ∧ H1 a = some (.lst vs)) (hl : ∀ a vs, w.own a = some lk → H a = some (.lst vs) → w1.own a = some lk ∧ H1 a = some (.lst vs))
    (h : SVok K w H ow lk sv v) : SVok K w1 H1 ow lk sv v := by
  cases sv with
  | val d => exact Rv.pre p h
  | own xs =>
    obtain ⟨a, vs, h1, h2, h3, h4⟩ := h
    obtain ⟨k1, k2⟩ := ho a vs h2 h3
    exact ⟨a, vs, h1, k1, k2, h4.pre p⟩
  | lk xs =>
    obtain ⟨a, vs, h1, h2, h3, h4⟩ := h
    obtain ⟨k1, k2⟩ := hl a vs h2 h3
    exact ⟨a, vs, h1, k1, k2, h4.pre p⟩
theorem Keep.hr (k : Keep w H w1 H1) (h : HR K cls w hp H) : HR K cls w1 hp H1 := by
  have e : ExtB true w H w1 H1 := k.ext h.dom
  have p := e.pre
  refine ⟨by rw [k.rho]; exact h.rl, k.dom, fun a n f q => ?_, fun n ob q => ?_⟩
  · have q' : w.own a = some (.fld n f) ∨ w.own a = some (.lkf n f) := by
      rcases q with q | q
      · rcases k.new a _ q with z | z
        · exact .inl z
        · cases z
      · rcases k.new a _ q with z | z
        · exact .inr z
        · cases z
    obtain ⟨⟨sv, k1, k2⟩, k3⟩ := h.tok a n f q'
    refine ⟨⟨sv, k1, k2⟩, fun r C dx fvs z1 z2 => ?_⟩
    rw [k.rho] at z1
    obtain ⟨C0, fs0, y1⟩ := getF_ob k1
    obtain ⟨r', u1, u2, dx0, fvs0, u3, u4⟩ := h.objs n _ y1
    rw [z1] at u1
    cases u1
    have e3 := k.val _ _ u3
    rw [z2] at e3
    cases e3
    exact k3 r _ _ _ z1 u3
  · obtain ⟨r, h1, h2, h3⟩ := h.objs n ob q
    refine ⟨r, by rw [k.rho]; exact h1, k.own r _ h2, ?_⟩
    cases ob with
    | box xs =>
      obtain ⟨vs, a1, a2⟩ := h3
      exact ⟨vs, k.val r _ a1, a2.pre p⟩
    | ins C fs =>
      obtain ⟨dx, fvs, a1, a2, a3⟩ := h3
      exact ⟨dx, fvs, k.val r _ a1, flds_imp (fun f sv v z => z.to p (fun a vs x y => ⟨k.own a _ x, k.val a _ y⟩) fun a vs x y => ⟨k.own a _ x, k.val a _ y⟩) a2, a3⟩
theorem Keep.sr (k : Keep w H w1 H1) (h : SR K cls w s σ H) : SR K cls w1 s σ H1 := by
  have e : ExtB true w H w1 H1 := k.ext h.hr.dom
  refine ⟨k.hr h.hr, h.sl, fun i sv q => ?_⟩
  obtain ⟨v, h1, h2⟩ := h.slots i sv q
  exact ⟨v, h1, h2.to e.pre (fun a vs x y => ⟨k.own a _ x, k.val a _ y⟩) fun a vs x y => ⟨k.own a _ x, k.val a _ y⟩⟩
/-- a new object that nobody owns -/
theorem Keep.plain {p : Addr} {o : HO} (hp : H p = none) (dm : ∀ a o, w.own a = some o → ∃ u, H a = some u) : Keep w H w (upd H p o) :=
  ⟨rfl, fun _ _ h => h, fun _ _ h => .inl h, fun a u h => by rw [upd_ne (ne_of_none h hp)]; exact h, fun a o' h => by
    obtain ⟨u, hu⟩ := dm a o' h
    exact ⟨u, by rw [upd_ne (ne_of_none hu hp)]; exact hu⟩⟩
theorem no_own {p : Addr} (hp : H p = none) (dm : ∀ a o, w.own a = some o → ∃ u, H a = some u) : w.own p = none := by
  cases q : w.own p with
  | none => rfl
  | some o =>
    obtain ⟨u, hu⟩ := dm p o q
    rw [hp] at hu
    cases hu
/-- a new list -/
theorem Keep.list {p : Addr} {o : HO} (hp : H p = none) (dm : ∀ a o, w.own a = some o → ∃ u, H a = some u) : Keep w H (w.put p .tmp) (upd H p o) := by
  have np := no_own hp dm
  refine ⟨rfl, fun a o' h => ?_, fun a o' h => ?_, fun a u h => by rw [upd_ne (ne_of_none h hp)]; exact h, fun a o' h => ?_⟩
  · have z : a ≠ p := fun z => by rw [z, np] at h; cases h
    rw [put_ne z]
    exact h
  · by_cases z : a = p
    · subst z
      rw [put_same] at h
      exact .inr (Option.some.inj h).symm
    · rw [put_ne z] at h
      exact .inl h
  · by_cases z : a = p
    · subst z
      exact ⟨o, upd_same⟩
    · rw [put_ne z] at h
      obtain ⟨u, hu⟩ := dm a o' h
      exact ⟨u, by rw [upd_ne z]; exact hu⟩

/-! ### a change at one place -/
structure Chg (w : Wd) (H : Hp) (w1 : Wd) (H1 : Hp) (a : Addr) (o0 : Own) : Prop where
  rho : w1.rho = w.rho
  own : ∀ b, b ≠ a → w1.own b = w.own b
  val : ∀ b, b ≠ a → H1 b = H b
  here : w.own a = some o0
  nfz : o0 ≠ .frz
  obj : ∃ u, H a = some u ∧ (∀ vs, u ≠ .tup vs) ∧ ∀ o z, u ≠ .frz o z
  obj1 : ∃ u, H1 a = some u
theorem Chg.pre {a : Addr} {o0 : Own} (c : Chg w H w1 H1 a o0) : Pre w H w1 H1 := by
  obtain ⟨u, hu, n1, n2⟩ := c.obj
  refine ⟨fun n b h => by rw [c.rho]; exact h, fun b vs h k => ?_, fun b vs h => ?_, fun b o z h => ?_⟩
  · have e : b ≠ a := fun e => by
      rw [e, c.here] at h
      exact c.nfz (Option.some.inj h)
    exact ⟨(c.own b e).trans h, (c.val b e).trans k⟩
  · have e : b ≠ a := fun e => by
      rw [e, hu] at h
      exact n1 vs (Option.some.inj h)
    exact (c.val b e).trans h
  · have e : b ≠ a := fun e => by
      rw [e, hu] at h
      exact n2 o z (Option.some.inj h)
    exact (c.val b e).trans h
/-- what has another owner stands -/
theorem Chg.sv {a : Addr} {o0 ow lk : Own} {sv : SV} {v : V} (c : Chg w H w1 H1 a o0) (n1 : o0 ≠ ow) (n2 : o0 ≠ lk) (h : SVok K w H ow lk sv v) : SVok K w1 H1 ow lk sv v :=
  h.to c.pre (fun b vs x y => by
    have e : b ≠ a := fun e => by
      rw [e, c.here] at x
      exact n1 (Option.some.inj x)
    exact ⟨(c.own b e).trans x, (c.val b e).trans y⟩) fun b vs x y => by
    have e : b ≠ a := fun e => by
      rw [e, c.here] at x
      exact n2 (Option.some.inj x)
    exact ⟨(c.own b e).trans x, (c.val b e).trans y⟩
theorem Chg.dom {a : Addr} {o0 : Own} (c : Chg w H w1 H1 a o0) (dm : ∀ a o, w.own a = some o → ∃ u, H a = some u) : ∀ b o, w1.own b = some o → ∃ u, H1 b = some u := fun b o h => by
  by_cases e : b = a
  · rw [e]
    exact c.obj1
  · rw [c.own b e] at h
    obtain ⟨u, hu⟩ := dm b o h
    exact ⟨u, (c.val b e).trans hu⟩
theorem Chg.ext {a : Addr} {o0 : Own} (c : Chg w H w1 H1 a o0) (hs : ∃ o', w1.own a = some o') (hf : o0.fix = true → (o0 = .tmp → tm = true) → False) (ho : o0.old = true → ∃ o', w1.own a = some o' ∧ o'.old = true) (hc : ∀ n, o0 = .cell n → w1.own a = some (.cell n))
    (ht : ∀ n f, (w1.own a = some (.fld n f) ∨ w1.own a = some (.lkf n f)) → (w.own a = some (.fld n f) ∨ w.own a = some (.lkf n f)))
    (hi : ∀ n C dx fs, w.own a = some (.cell n) → H a = some (.ins C dx fs) → ∃ fs', H1 a = some (.ins C dx fs') ∧ ∀ f v, fs.lookup f = some v → ∃ v', fs'.lookup f = some v' ∧ (Tk w1 n f v' → v' = v ∧ Tk w n f v)) : ExtB tm w H w1 H1 := by
  have p := c.pre
  have tk : ∀ {n f v}, Tk w1 n f v → Tk w n f v := fun {n f v} t => by
    obtain ⟨b, rfl, h⟩ := t
    refine ⟨b, rfl, ?_⟩
    by_cases e : b = a
    · subst e
      exact ht n f h
    · rw [c.own b e] at h
      exact h
  refine ⟨⟨[], by simp [c.rho]⟩, fun b o h q z => ?_, fun b o h => ?_, fun b o h q => ?_, fun b n h => ?_, fun r n C dx fs h k => ?_, fun b u h => ?_, p.tup, p.frz⟩
  · have e : b ≠ a := fun e => by
      rw [e, c.here] at h
      cases h
      exact hf q z
    exact ⟨(c.own b e).trans h, c.val b e⟩
  · by_cases e : b = a
    · subst e
      exact hs
    · exact ⟨o, (c.own b e).trans h⟩
  · by_cases e : b = a
    · subst e
      rw [c.here] at h
      cases h
      exact ho q
    · exact ⟨o, (c.own b e).trans h, q⟩
  · by_cases e : b = a
    · subst e
      rw [c.here] at h
      cases h
      exact hc n rfl
    · exact (c.own b e).trans h
  · by_cases e : r = a
    · subst e
      exact hi n C dx fs h k
    · exact ⟨fs, (c.val r e).trans k, fun f v z => ⟨v, z, fun t => ⟨rfl, tk t⟩⟩⟩
  · by_cases e : b = a
    · subst e
      exact c.obj1
    · exact ⟨u, (c.val b e).trans h⟩
/-- objects, where a list changes that no field and no object has -/
theorem Chg.hr {a : Addr} {o0 : Own} (c : Chg w H w1 H1 a o0) (h : HR K cls w hp H) (n1 : ∀ n, o0 ≠ .cell n) (n2 : ∀ n f, o0 ≠ .fld n f) (n3 : ∀ n f, o0 ≠ .lkf n f)
    (ht : ∀ n f, (w1.own a = some (.fld n f) ∨ w1.own a = some (.lkf n f)) → False) : HR K cls w1 hp H1 := by
  refine ⟨by rw [c.rho]; exact h.rl, c.dom h.dom, fun b n f q => ?_, fun n ob q => ?_⟩
  · by_cases e : b = a
    · subst e
      exact (ht n f q).elim
    · rw [c.own b e] at q
      obtain ⟨⟨sv, k1, k2⟩, k3⟩ := h.tok b n f q
      refine ⟨⟨sv, k1, k2⟩, fun r C dx fvs z1 z2 => ?_⟩
      rw [c.rho] at z1
      obtain ⟨C0, fs0, y1⟩ := getF_ob k1
      obtain ⟨r', u1, u2, u3⟩ := h.objs n _ y1
      rw [z1] at u1
      cases u1
      have ne : r ≠ a := fun z => by
        rw [z, c.here] at u2
        exact n1 n (Option.some.inj u2)
      rw [c.val r ne] at z2
      exact k3 r _ _ _ z1 z2
  · obtain ⟨r, h1, h2, h3⟩ := h.objs n ob q
    have e : r ≠ a := fun e => by
      rw [e, c.here] at h2
      exact n1 n (Option.some.inj h2)
    refine ⟨r, by rw [c.rho]; exact h1, (c.own r e).trans h2, ?_⟩
    cases ob with
    | box xs =>
      obtain ⟨vs, a1, a2⟩ := h3
      exact ⟨vs, (c.val r e).trans a1, a2.pre c.pre⟩
    | ins C fs =>
      obtain ⟨dx, fvs, a1, a2, a3⟩ := h3
      exact ⟨dx, fvs, (c.val r e).trans a1, flds_imp (fun f sv v z => c.sv (n2 n f) (n3 n f) z) a2, a3⟩
/-- slots, where a list changes that no slot has -/
theorem Chg.slots {a : Addr} {o0 : Own} (c : Chg w H w1 H1 a o0) (h : SR K cls w s σ H) (n1 : ∀ n, o0 ≠ .slot n) (n2 : ∀ n, o0 ≠ .lks n) : ∀ i sv, s.sl[i]? = some (some sv) → ∃ v, σ[i]? = some (some v) ∧ SVok K w1 H1 (.slot i) (.lks i) sv v := fun i sv q => by
  obtain ⟨v, h1, h2⟩ := h.slots i sv q
  exact ⟨v, h1, c.sv (n1 i) (n2 i) h2⟩

/-! ### slots -/
theorem setS_get {i j : Nat} {v : Option SV} {sv : SV} (h : (s.setS i v).sl[j]? = some (some sv)) : (j = i ∧ v = some sv) ∨ (j ≠ i ∧ s.sl[j]? = some (some sv)) := by
  have h' : (s.sl.set i v)[j]? = some (some sv) := h
  by_cases e : i = j
  · subst e
    by_cases hl : i < s.sl.length
    · rw [List.getElem?_set_self hl] at h'
      exact .inl ⟨rfl, Option.some.inj h'⟩
    · rw [List.getElem?_eq_none (by simpa using hl)] at h'
      cases h'
  · rw [List.getElem?_set_ne e] at h'
    exact .inr ⟨fun z => e z.symm, h'⟩
/-- a slot's entry is replaced, the heap and the owners but at a as they are -/
theorem SR.setSlot {a : Addr} {o0 : Own} {i : Nat} {sv : SV} (h : SR K cls w s σ H) (c : Chg w H w1 H1 a o0) (ho : o0 = .slot i ∨ o0 = .lks i) (ht : ∀ n f, (w1.own a = some (.fld n f) ∨ w1.own a = some (.lkf n f)) → False)
    (hv : ∃ v, σ[i]? = some (some v) ∧ SVok K w1 H1 (.slot i) (.lks i) sv v) : SR K cls w1 (s.setS i (some sv)) σ H1 := by
  have d1 : ∀ n, o0 ≠ .cell n := fun n z => by rcases ho with q | q <;> (rw [q] at z; cases z)
  have d2 : ∀ n f, o0 ≠ .fld n f := fun n f z => by rcases ho with q | q <;> (rw [q] at z; cases z)
  have d3 : ∀ n f, o0 ≠ .lkf n f := fun n f z => by rcases ho with q | q <;> (rw [q] at z; cases z)
  refine ⟨c.hr h.hr d1 d2 d3 ht, ?_, fun j sv' q => ?_⟩
  · show (s.sl.set i (some sv)).length = _
    rw [List.length_set]
    exact h.sl
  · rcases setS_get q with ⟨rfl, e⟩ | ⟨e, q⟩
    · cases e
      exact hv
    · obtain ⟨v, h1, h2⟩ := h.slots j sv' q
      refine ⟨v, h1, c.sv (fun z => ?_) (fun z => ?_) h2⟩
      · rcases ho with k | k <;> (rw [k] at z; cases z)
        exact e rfl
      · rcases ho with k | k <;> (rw [k] at z; cases z)
        exact e rfl
end
end MP
end
section
set_option maxRecDepth 100000
set_option maxHeartbeats 1000000
set_option autoImplicit false
/-! MPe: freezing, storing, changing, locking. -/
namespace MP
open PySem PySem.Spec PyProof.Rows L2

/-! ### fields by name -/
theorem lookup_putFld (f g : Str) (v : SV) : ∀ fs : List (Str × SV), (putFld f v fs).lookup g = if g = f then some v else fs.lookup g
  | [] => by
    show List.lookup g [(f, v)] = _
    rw [List.lookup_cons]
    by_cases e : g = f
    · subst e; simp
    · have q : (g == f) = false := by simpa using e
      rw [q, if_neg e]
  | (k, x) :: r => by
    have ih := lookup_putFld f g v r
    show List.lookup g (if k = f then (k, v) :: r else (k, x) :: putFld f v r) = _
    by_cases e : k = f
    · subst e
      rw [if_pos rfl, List.lookup_cons, List.lookup_cons]
      by_cases q : g = k
      · subst q; simp
      · have q' : (g == k) = false := by simpa using q
        rw [q', if_neg q]
    · rw [if_neg e, List.lookup_cons, List.lookup_cons]
      by_cases q : g = k
      · subst q
        simp [e]
      · have q' : (g == k) = false := by simpa using q
        rw [q']
        exact ih
theorem putF_same {f : Str} {v : V} : ∀ {fs : List (Str × V)}, fs.lookup f = some v → putF f v fs = fs
  | [], h => by simp at h
  | (k, x) :: r, h => by
    rw [List.lookup_cons] at h
    show (if k = f then (k, v) :: r else (k, x) :: putF f v r) = _
    by_cases e : k = f
    · subst e
      simp at h
      subst h
      simp
    · have q : (f == k) = false := by simpa using fun z => e z.symm
      rw [q] at h
      rw [if_neg e, putF_same h]
theorem keys_putFld_mem {f : Str} {v : SV} : ∀ {fs : List (Str × SV)} {g : Str}, g ∈ (putFld f v fs).map (·.1) → g = f ∨ g ∈ fs.map (·.1)
  | [], g, h => by
    have h' : g ∈ [f] := h
    simp at h'
    exact .inl h'
  | (k, x) :: r, g, h => by
    have h' : g ∈ ((if k = f then (k, v) :: r else (k, x) :: putFld f v r).map (·.1)) := h
    by_cases e : k = f
    · rw [if_pos e] at h'
      exact .inr h'
    · rw [if_neg e] at h'
      rcases List.mem_cons.mp h' with z | z
      · exact .inr (by simp [z])
      · rcases keys_putFld_mem z with z | z
        · exact .inl z
        · exact .inr (List.mem_cons_of_mem _ z)
theorem nodup_putFld {f : Str} {v : SV} : ∀ {fs : List (Str × SV)}, (fs.map (·.1)).Nodup → ((putFld f v fs).map (·.1)).Nodup
  | [], _ => by simp [putFld]
  | (k, x) :: r, h => by
    have h' : k ∉ r.map (·.1) ∧ (r.map (·.1)).Nodup := by simpa using h
    show ((if k = f then (k, v) :: r else (k, x) :: putFld f v r).map (·.1)).Nodup
    by_cases e : k = f
    · rw [if_pos e]
      simpa using h
    · rw [if_neg e]
      have ih := nodup_putFld (f := f) (v := v) h'.2
      show (k :: (putFld f v r).map (·.1)).Nodup
      rw [List.nodup_cons]
      refine ⟨fun z => ?_, ih⟩
      rcases keys_putFld_mem z with z | z
      · exact e z
      · exact h'.1 z
theorem getF_ins {hp : List HOb} {n : Nat} {C : Nat} {fs : List (Str × SV)} (h : hp[n]? = some (.ins C fs)) (f : Str) : getF hp n f = fs.lookup f := by
  unfold getF
  rw [h]
theorem getF_some {hp : List HOb} {n : Nat} {f : Str} {sv : SV} (h : getF hp n f = some sv) : ∃ C fs, hp[n]? = some (.ins C fs) ∧ fs.lookup f = some sv := by
  unfold getF at h
  split at h
  · exact ⟨_, _, by assumption, h⟩
  · cases h
theorem setF_get {hp : List HOb} {n : Nat} {C : Nat} {fs : List (Str × SV)} (h : hp[n]? = some (.ins C fs)) (f : Str) (v : SV) : setF hp n f v = hp.set n (.ins C (putFld f v fs)) := by
  unfold setF
  rw [h]
theorem setF_other {hp : List HOb} {n m : Nat} {f g : Str} {v : SV} (h : ¬ (m = n ∧ g = f)) : getF (setF hp n f v) m g = getF hp m g := by
  unfold setF
  split
  · rename_i C fs e
    have hl : n < hp.length := (List.getElem?_eq_some_iff.mp e).1
    by_cases q : m = n
    · subst q
      have z : (hp.set m (.ins C (putFld f v fs)))[m]? = some (.ins C (putFld f v fs)) := by rw [List.getElem?_set_self hl]
      rw [getF_ins z, getF_ins e, lookup_putFld, if_neg fun z => h ⟨rfl, z⟩]
    · unfold getF
      rw [List.getElem?_set_ne fun z => q z.symm]
  · rfl
theorem setF_same {hp : List HOb} {n : Nat} {C : Nat} {fs : List (Str × SV)} (h : hp[n]? = some (.ins C fs)) (f : Str) (v : SV) : getF (setF hp n f v) n f = some v := by
  have hl : n < hp.length := (List.getElem?_eq_some_iff.mp h).1
  rw [setF_get h]
  have z : (hp.set n (.ins C (putFld f v fs)))[n]? = some (.ins C (putFld f v fs)) := by rw [List.getElem?_set_self hl]
  rw [getF_ins z, lookup_putFld, if_pos rfl]
theorem setF_length {hp : List HOb} {n : Nat} {f : Str} {v : SV} : (setF hp n f v).length = hp.length := by
  unfold setF
  split
  · rw [List.length_set]
  · rfl

section
variable {K : PySem.W.Frag} {cls : Nat → Addr} {tm : Bool} {w w0 w1 w2 : Wd} {H H0 H1 H2 : Hp} {σ : L2.St} {s s1 : MSt} {hp : List HOb}
/-- a field's entry is replaced: at a its list (if it has one), at the object nothing -/
theorem HR.setField {a : Addr} {o0 : Own} {n C : Nat} {f : Str} {fs : List (Str × SV)} {sv sv0 : SV} (h : HR K cls w hp H) (c : Chg w H w1 H1 a o0) (ho : o0 = .fld n f ∨ o0 = .lkf n f)
    (hn : hp[n]? = some (.ins C fs)) (hl : fs.lookup f = some sv0) (ht : ∀ m g, (w1.own a = some (.fld m g) ∨ w1.own a = some (.lkf m g)) → m = n ∧ g = f ∧ sv.has = true)
    (hv : ∀ v, SVok K w H (.fld n f) (.lkf n f) sv0 v → SVok K w1 H1 (.fld n f) (.lkf n f) sv v) : HR K cls w1 (setF hp n f sv) H1 := by
  have old : w.own a = some (.fld n f) ∨ w.own a = some (.lkf n f) := by
    rcases ho with z | z
    · exact .inl (by rw [← z]; exact c.here)
    · exact .inr (by rw [← z]; exact c.here)
  have nc : ∀ m, o0 ≠ .cell m := fun m z => by rcases ho with q | q <;> (rw [q] at z; cases z)
  have obj : ∀ (m : Nat) (ob : HOb) (r : Addr), hp[m]? = some ob → w.rho[m]? = some r → r ≠ a := fun m ob r h1 h2 z => by
    obtain ⟨r', u1, u2, _⟩ := h.objs m ob h1
    rw [h2] at u1
    cases u1
    rw [z, c.here] at u2
    exact nc m (Option.some.inj u2)
  refine ⟨by rw [c.rho, setF_length]; exact h.rl, c.dom h.dom, fun b m g q => ?_, fun m ob q => ?_⟩
  · by_cases e : b = a
    · subst e
      obtain ⟨rfl, rfl, k⟩ := ht m g q
      refine ⟨⟨sv, setF_same hn _ _, k⟩, fun r C' dx fvs z1 z2 => ?_⟩
      rw [c.rho] at z1
      rw [c.val r (obj _ _ r hn z1)] at z2
      exact (h.tok b _ _ old).2 r _ _ _ z1 z2
    · rw [c.own b e] at q
      obtain ⟨⟨sv', k1, k2⟩, k3⟩ := h.tok b m g q
      have z : ¬ (m = n ∧ g = f) := fun z => by
        obtain ⟨rfl, rfl⟩ := z
        obtain ⟨r, hr1, hr2, dx, fvs, f1, f2, f3⟩ := h.objs _ _ hn
        have e1 := k3 r _ _ _ hr1 f1
        have e2 := (h.tok a _ _ old).2 r _ _ _ hr1 f1
        rw [e1] at e2
        cases e2
        exact e rfl
      refine ⟨⟨sv', (setF_other z).trans k1, k2⟩, fun r C' dx fvs z1 z2 => ?_⟩
      rw [c.rho] at z1
      obtain ⟨C0, fs0, y1⟩ := getF_ob k1
      rw [c.val r (obj _ _ r y1 z1)] at z2
      exact k3 r _ _ _ z1 z2
  · rw [setF_get hn] at q
    have hl' : n < hp.length := (List.getElem?_eq_some_iff.mp hn).1
    by_cases e : n = m
    · subst e
      rw [List.getElem?_set_self hl'] at q
      cases q
      obtain ⟨r, h1, h2, dx, fvs, f1, f2, f3⟩ := h.objs n _ hn
      have ne := obj n _ r hn h1
      obtain ⟨v, l1, l2⟩ := flds_get f2 hl
      have p := flds_put (w1 := w1) (H1 := H1) (hv v l2) (fun g sv v ng z => c.sv (fun y => by rcases ho with q | q <;> (rw [q] at y; cases y); exact ng rfl) (fun y => by rcases ho with q | q <;> (rw [q] at y; cases y); exact ng rfl) z) f2 f3
      rw [putF_same l1] at p
      exact ⟨r, by rw [c.rho]; exact h1, (c.own r ne).trans h2, dx, fvs, (c.val r ne).trans f1, p, nodup_putFld f3⟩
    · rw [List.getElem?_set_ne e] at q
      obtain ⟨r, h1, h2, h3⟩ := h.objs m ob q
      have ne := obj m ob r q h1
      refine ⟨r, by rw [c.rho]; exact h1, (c.own r ne).trans h2, ?_⟩
      cases ob with
      | box xs =>
        obtain ⟨vs, a1, a2⟩ := h3
        exact ⟨vs, (c.val r ne).trans a1, a2.pre c.pre⟩
      | ins C' fs' =>
        obtain ⟨dx, fvs, a1, a2, a3⟩ := h3
        exact ⟨dx, fvs, (c.val r ne).trans a1, flds_imp (fun g sv v z => c.sv (fun y => by rcases ho with q | q <;> (rw [q] at y; cases y); exact e rfl) (fun y => by rcases ho with q | q <;> (rw [q] at y; cases y); exact e rfl) z) a2, a3⟩

/-- new since w0: the new list at v has no owner there -/
def New (w0 : Wd) (d : D) (v : V) : Prop :=
  match d with
  | .nw _ => ∃ a, v = .ref a ∧ w0.own a = none
  | _ => True
/-- a new list gets an owner -/
theorem Chg.extN {a : Addr} (e : ExtB tm w0 H0 w H) (c : Chg w H w1 H1 a .tmp) (hn : w0.own a = none)
    (ht : ∀ n f, (w1.own a = some (.fld n f) ∨ w1.own a = some (.lkf n f)) → ∀ r C dx fs, w0.own r = some (.cell n) → H0 r = some (.ins C dx fs) → fs.lookup f = none) (hu : H a ≠ none → True) : ExtB tm w0 H0 w1 H1 := by
  obtain ⟨u, hu, n1, n2⟩ := c.obj
  refine ⟨by rw [c.rho]; exact e.rho, fun b o h q z => ?_, fun b o h => ?_, fun b o h q => ?_, fun b n h => ?_, fun r n C dx fs h k => ?_, fun b u' h => ?_, fun b vs h => ?_, fun b o z h => ?_⟩
  · have ne : b ≠ a := fun x => by rw [x, hn] at h; cases h
    obtain ⟨k1, k2⟩ := e.own b o h q z
    exact ⟨(c.own b ne).trans k1, (c.val b ne).trans k2⟩
  · have ne : b ≠ a := fun x => by rw [x, hn] at h; cases h
    obtain ⟨o', k1⟩ := e.som b o h
    exact ⟨o', (c.own b ne).trans k1⟩
  · have ne : b ≠ a := fun x => by rw [x, hn] at h; cases h
    obtain ⟨o', k1, k2⟩ := e.old b o h q
    exact ⟨o', (c.own b ne).trans k1, k2⟩
  · have ne : b ≠ a := fun x => by rw [x, hn] at h; cases h
    exact (c.own b ne).trans (e.cell b n h)
  · have ne : r ≠ a := fun x => by rw [x, hn] at h; cases h
    obtain ⟨fs', k1, k2⟩ := e.fld r n C dx fs h k
    refine ⟨fs', (c.val r ne).trans k1, fun f v q => ?_⟩
    obtain ⟨v', k3, k4⟩ := k2 f v q
    refine ⟨v', k3, fun t => ?_⟩
    obtain ⟨b, rfl, t⟩ := t
    by_cases x : b = a
    · subst x
      have := ht n f t r C dx fs h k
      rw [this] at q
      cases q
    · rw [c.own b x] at t
      exact k4 ⟨b, rfl, t⟩
  · obtain ⟨u2, k⟩ := e.dom b u' h
    by_cases x : b = a
    · rw [x]
      exact c.obj1
    · exact ⟨u2, (c.val b x).trans k⟩
  · exact c.pre.tup b vs (e.tup b vs h)
  · exact c.pre.frz b o z (e.frz b o z h)
theorem chg_put {a : Addr} {o0 o1 : Own} {vs : List V} (h1 : w.own a = some o0) (h2 : H a = some (.lst vs)) (n : o0 ≠ .frz) : Chg w H (w.put a o1) H a o0 :=
  ⟨rfl, fun b hb => put_ne hb, fun _ _ => rfl, h1, n, ⟨_, h2, (fun _ z => nomatch z), (fun _ _ z => nomatch z)⟩, ⟨_, h2⟩⟩
theorem chg_set {a : Addr} {o0 : Own} {vs us : List V} (h1 : w.own a = some o0) (h2 : H a = some (.lst vs)) (n : o0 ≠ .frz) : Chg w H w (upd H a (.lst us)) a o0 :=
  ⟨rfl, fun _ _ => rfl, fun b hb => upd_ne hb, h1, n, ⟨_, h2, (fun _ z => nomatch z), (fun _ _ z => nomatch z)⟩, ⟨_, upd_same⟩⟩

/-! ### freezing -/
theorem pre_id : Pre w H w H := ⟨fun _ _ h => h, fun _ _ h k => ⟨h, k⟩, fun _ _ h => h, fun _ _ _ h => h⟩
/-- no new list -/
def D.nonw : D → Bool
  | .nw _ => false
  | _ => true
/-- other values outlive a freezing -/
theorem chg_rp {a : Addr} {o0 : Own} {x : D} {u : V} (c : Chg w H w1 H a o0) (hc : ∀ n, o0 ≠ .cell n) (h1 : w1.own a = some .frz) (hx : x.nonw = true) (r : Rp K w σ H x u) : Rp K w1 σ H x u := by
  cases x with
  | nw xs => cases hx
  | sl i => exact r
  | fl n f =>
    obtain ⟨r0, C, dx, fs, y, k1, k2, k3, k4, k5⟩ := r
    have ne : r0 ≠ a := fun z => by
      rw [z, c.here] at k2
      exact hc n (Option.some.inj k2)
    refine ⟨r0, C, dx, fs, y, by rw [c.rho]; exact k1, (c.own r0 ne).trans k2, k3, k4, fun t => k5 ?_⟩
    obtain ⟨b, rfl, t⟩ := t
    have nb : b ≠ a := fun z => by
      rw [z, h1] at t
      rcases t with t | t <;> cases t
    rw [c.own b nb] at t
    exact ⟨b, rfl, t⟩
  | _ => exact (Rv.pre c.pre (r.hard rfl)).rp
theorem frz_okP {d d' : D} {v : V} (h : SR K cls w s σ H) (r : Rp K w σ H d v) (e : frz d s = some (d', s1)) : ∃ w', SR K cls w' s1 σ H ∧ Rv K w' H d' v ∧ Pre w H w' H ∧ (∀ (x : D) (u : V), x.nonw = true → Rp K w σ H x u → Rp K w' σ H x u) ∧ ∀ tm w0 H0, ExtB tm w0 H0 w H → New w0 d v → ExtB tm w0 H0 w' H := by
  have same : d.hard = true → some (d, s) = some (d', s1) → ∃ w', SR K cls w' s1 σ H ∧ Rv K w' H d' v ∧ Pre w H w' H ∧ (∀ (x : D) (u : V), x.nonw = true → Rp K w σ H x u → Rp K w' σ H x u) ∧ ∀ tm w0 H0, ExtB tm w0 H0 w H → New w0 d v → ExtB tm w0 H0 w' H := fun q z => by
    cases z
    exact ⟨w, h, r.hard q, pre_id, (fun _ _ _ z => z), fun _ _ _ x _ => x⟩
  cases d with
  | nw xs =>
    have e' : some (D.lst xs, s) = some (d', s1) := e
    cases e'
    obtain ⟨a, vs, rfl, r2, r3, r4⟩ := r
    have c : Chg w H (w.put a .frz) H a .tmp := chg_put r2 r3 (fun z => nomatch z)
    refine ⟨w.put a .frz, ⟨c.hr h.hr (fun _ z => nomatch z) (fun _ _ z => nomatch z) (fun _ _ z => nomatch z) (fun n f z => ?_), h.sl, c.slots h (fun _ z => nomatch z) fun _ z => nomatch z⟩, ?_, c.pre, (fun _ _ => chg_rp c (fun _ z => nomatch z) put_same), fun tm w0 H0 x n => ?_⟩
    · rw [put_same] at z
      rcases z with z | z <;> cases z
    · unfold Rv
      exact ⟨a, vs, rfl, ⟨put_same, r3⟩, r4.pre c.pre⟩
    · obtain ⟨a', ea, n⟩ := n
      cases ea
      refine c.extN x n (fun n f z => ?_) fun _ => trivial
      rw [put_same] at z
      rcases z with z | z <;> cases z
  | sl i =>
    have e' : (match getS s i with
      | some (.own xs) => some (D.lst xs, s.setS i (some (.val (.lst xs))))
      | some (.val x) => some (x, s)
      | _ => none) = some (d', s1) := e
    have r' : σ[i]? = some (some v) := r
    cases g : getS s i with
    | none => rw [g] at e'; cases e'
    | some sv =>
      rw [g] at e'
      obtain ⟨v', h1, h2⟩ := h.slots i sv (getS_of g)
      rw [r'] at h1
      cases h1
      cases sv with
      | lk xs => cases e'
      | val x =>
        cases e'
        exact ⟨w, h, h2, pre_id, (fun _ _ _ z => z), fun _ _ _ x _ => x⟩
      | own xs =>
        cases e'
        obtain ⟨a, vs, rfl, r2, r3, r4⟩ := h2
        have c : Chg w H (w.put a .frz) H a (.slot i) := chg_put r2 r3 (fun z => nomatch z)
        have nt : ∀ n f, ((w.put a .frz).own a = some (.fld n f) ∨ (w.put a .frz).own a = some (.lkf n f)) → False := fun n f z => by
          rw [put_same] at z
          rcases z with z | z <;> cases z
        have rv : Rv K (w.put a .frz) H (.lst xs) (.ref a) := by
          unfold Rv
          exact ⟨a, vs, rfl, ⟨put_same, r3⟩, r4.pre c.pre⟩
        refine ⟨w.put a .frz, h.setSlot c (.inl rfl) nt ⟨_, r', rv⟩, rv, c.pre, (fun _ _ => chg_rp c (fun _ z => nomatch z) put_same), fun tm w0 H0 x _ => x.trans (c.ext ⟨.frz, put_same⟩ (fun z => nomatch z) (fun z => nomatch z) (fun _ z => nomatch z) (fun n f z => (nt n f z).elim) fun n C dx fs z _ => ?_)⟩
        rw [r2] at z
        cases z
  | fl n f =>
    have e' : (match getF s.hp n f with
      | some (.own xs) => some (D.lst xs, s.setFl n f (.val (.lst xs)))
      | _ => none) = some (d', s1) := e
    cases g : getF s.hp n f with
    | none => rw [g] at e'; cases e'
    | some sv =>
      rw [g] at e'
      cases sv with
      | lk xs => cases e'
      | val x => cases e'
      | own xs =>
        cases e'
        obtain ⟨C, fs, k1, k2⟩ := getF_some g
        obtain ⟨r0, h1, h2, dx, fvs, f1, f2, f3⟩ := h.hr.objs n _ k1
        obtain ⟨u, l1, l2⟩ := flds_get f2 k2
        obtain ⟨a, vs, rfl, r2, r3, r4⟩ := l2
        obtain ⟨r', C', dx', fs', u', q1, q2, q3, q4, q5⟩ := r
        rw [h1] at q1
        cases q1
        rw [f1] at q3
        cases q3
        rw [l1] at q4
        cases q4
        obtain rfl := q5 ⟨a, rfl, .inl r2⟩
        have c : Chg w H (w.put a .frz) H a (.fld n f) := chg_put r2 r3 (fun z => nomatch z)
        have nt : ∀ m g, ((w.put a .frz).own a = some (.fld m g) ∨ (w.put a .frz).own a = some (.lkf m g)) → False := fun n f z => by
          rw [put_same] at z
          rcases z with z | z <;> cases z
        have rv : Rv K (w.put a .frz) H (.lst xs) (.ref a) := by
          unfold Rv
          exact ⟨a, vs, rfl, ⟨put_same, r3⟩, r4.pre c.pre⟩
        refine ⟨w.put a .frz, ⟨h.hr.setField c (.inl rfl) k1 k2 (fun m g z => (nt m g z).elim) (fun v z => ?_), h.sl, fun i sv q => Chg.slots (s := s) c h (fun _ z => nomatch z) (fun _ z => nomatch z) i sv q⟩, rv, c.pre, (fun _ _ => chg_rp c (fun _ z => nomatch z) put_same), fun tm w0 H0 x _ => x.trans (c.ext ⟨.frz, put_same⟩ (fun z => nomatch z) (fun _ => ⟨.frz, put_same, rfl⟩) (fun _ z => nomatch z) (fun n f z => (nt n f z).elim) fun n C dx fs z _ => ?_)⟩
        · obtain ⟨b, vs', rfl, z2, z3, z4⟩ := z
          obtain ⟨b', eb⟩ : ∃ b', V.ref b = V.ref b' := ⟨b, rfl⟩
          have e1 := (h.hr.tok b n f (.inl z2)).2 r0 _ _ _ h1 f1
          rw [l1] at e1
          cases e1
          exact rv
        · rw [r2] at z
          cases z
  | non => exact same rfl e
  | bl b => exact same rfl e
  | int i => exact same rfl e
  | str z => exact same rfl e
  | tup xs => exact same rfl e
  | lst xs => exact same rfl e
  | ref n => exact same rfl e
  | scr ns => exact same rfl e
theorem frz_ok {d d' : D} {v : V} (h : SR K cls w s σ H) (r : Rp K w σ H d v) (e : frz d s = some (d', s1)) : ∃ w', SR K cls w' s1 σ H ∧ Rv K w' H d' v ∧ ∀ tm w0 H0, ExtB tm w0 H0 w H → New w0 d v → ExtB tm w0 H0 w' H := by
  obtain ⟨w', h1, h2, _, _, h3⟩ := frz_okP h r e
  exact ⟨w', h1, h2, h3⟩
end
end MP
end
section
set_option maxRecDepth 100000
set_option maxHeartbeats 1000000
set_option autoImplicit false
/-! MPf: lists that are read and changed. -/
namespace MP
open PySem PySem.Spec PyProof.Rows L2
section
variable {K : PySem.W.Frag} {cls : Nat → Addr} {tm : Bool} {w w0 w1 w2 : Wd} {H H0 H1 H2 : Hp} {σ : L2.St} {s s1 : MSt} {hp : List HOb}
theorem lview_ok {d : D} {v : V} {xs : List D} (h : SR K cls w s σ H) (r : Rp K w σ H d v) (e : lview d s = some xs) : ∃ a vs, v = .ref a ∧ H a = some (.lst vs) ∧ Rvs K w H xs vs := by
  cases d with
  | lst ys =>
    cases e
    have r' : Rv K w H (.lst xs) v := r
    unfold Rv at r'
    obtain ⟨a, vs, h1, h2, h3⟩ := r'
    exact ⟨a, vs, h1, h2.2, h3⟩
  | nw ys =>
    cases e
    obtain ⟨a, vs, h1, h2, h3, h4⟩ := r
    exact ⟨a, vs, h1, h3, h4⟩
  | sl i =>
    have e' : (getS s i).bind svList = some xs := e
    cases g : getS s i with
    | none => rw [g] at e'; cases e'
    | some sv =>
      rw [g] at e'
      obtain ⟨v', h1, h2⟩ := h.slots i sv (getS_of g)
      have r' : σ[i]? = some (some v) := r
      rw [r'] at h1
      cases h1
      cases sv with
      | own ys =>
        cases e'
        obtain ⟨a, vs, k1, k2, k3, k4⟩ := h2
        exact ⟨a, vs, k1, k3, k4⟩
      | lk ys =>
        cases e'
        obtain ⟨a, vs, k1, k2, k3, k4⟩ := h2
        exact ⟨a, vs, k1, k3, k4⟩
      | val x =>
        cases x with
        | lst ys =>
          cases e'
          have q : Rv K w H (.lst xs) v := h2
          unfold Rv at q
          obtain ⟨a, vs, k1, k2, k3⟩ := q
          exact ⟨a, vs, k1, k2.2, k3⟩
        | _ => cases e'
  | fl n f =>
    have e' : (getF s.hp n f).bind flList = some xs := e
    cases g : getF s.hp n f with
    | none => rw [g] at e'; cases e'
    | some sv =>
      rw [g] at e'
      obtain ⟨C, fs, k1, k2⟩ := getF_some g
      obtain ⟨r0, h1, h2, dx, fvs, f1, f2, f3⟩ := h.hr.objs n _ k1
      obtain ⟨u, l1, l2⟩ := flds_get f2 k2
      obtain ⟨r', C', dx', fs', u', q1, q2, q3, q4, q5⟩ := r
      rw [h1] at q1
      cases q1
      rw [f1] at q3
      cases q3
      rw [l1] at q4
      cases q4
      cases sv with
      | val x => cases e'
      | own ys =>
        cases e'
        obtain ⟨a, vs, rfl, r2, r3, r4⟩ := l2
        obtain rfl := q5 ⟨a, rfl, .inl r2⟩
        exact ⟨a, vs, rfl, r3, r4⟩
      | lk ys =>
        cases e'
        obtain ⟨a, vs, rfl, r2, r3, r4⟩ := l2
        obtain rfl := q5 ⟨a, rfl, .inr r2⟩
        exact ⟨a, vs, rfl, r3, r4⟩
  | ref n =>
    have r' : Rv K w H (.ref n) v := r
    unfold Rv at r'
    obtain ⟨a, h1, rfl⟩ := r'
    have e' : (match s.hp[n]? with
      | some (.box xs) => some xs
      | _ => none) = some xs := e
    cases g : s.hp[n]? with
    | none => rw [g] at e'; cases e'
    | some ob =>
      rw [g] at e'
      cases ob with
      | ins C fs => cases e'
      | box ys =>
        cases e'
        obtain ⟨r0, k1, k2, vs, k3, k4⟩ := h.hr.objs n _ g
        rw [h1] at k1
        cases k1
        exact ⟨a, vs, rfl, k3, k4⟩
  | _ => cases e
theorem sview_ok {d : D} {v : V} {xs : List D} (h : SR K cls w s σ H) (r : Rp K w σ H d v) (e : sview d s = some xs) : ∃ a vs, v = .ref a ∧ (H a = some (.lst vs) ∨ SqT K H a vs) ∧ Rvs K w H xs vs := by
  have go : lview d s = some xs → ∃ a vs, v = .ref a ∧ (H a = some (.lst vs) ∨ SqT K H a vs) ∧ Rvs K w H xs vs := fun q => by
    obtain ⟨a, vs, h1, h2, h3⟩ := lview_ok h r q
    exact ⟨a, vs, h1, .inl h2, h3⟩
  cases d with
  | tup ys =>
    cases e
    have r' : Rv K w H (.tup xs) v := r
    unfold Rv at r'
    obtain ⟨a, vs, h1, h2, h3⟩ := r'
    exact ⟨a, vs, h1, .inr h2, h3⟩
  | _ => exact go e
/-- a list that is changed -/
theorem oput_ok {d : D} {v : V} {xs : List D} (h : SR K cls w s σ H) (r : Rp K w σ H d v) (e : oview d s = some xs) :
    ∃ a vs, v = .ref a ∧ H a = some (.lst vs) ∧ Rvs K w H xs vs ∧ ∀ ys us, Rvs K w H ys us → SR K cls w (oput d ys s) σ (upd H a (.lst us)) ∧ Ext w H w (upd H a (.lst us)) := by
  cases d with
  | sl i =>
    have e' : (match getS s i with
      | some (.own xs) => some xs
      | _ => none) = some xs := e
    cases g : getS s i with
    | none => rw [g] at e'; cases e'
    | some sv =>
      rw [g] at e'
      cases sv with
      | val x => cases e'
      | lk x => cases e'
      | own zs =>
        cases e'
        obtain ⟨v', h1, h2⟩ := h.slots i _ (getS_of g)
        have r' : σ[i]? = some (some v) := r
        rw [r'] at h1
        cases h1
        obtain ⟨a, vs, k1, k2, k3, k4⟩ := h2
        refine ⟨a, vs, k1, k3, k4, fun ys us q => ?_⟩
        have c : Chg w H w (upd H a (.lst us)) a (.slot i) := chg_set k2 k3 (fun z => nomatch z)
        have nt : ∀ n f, (w.own a = some (.fld n f) ∨ w.own a = some (.lkf n f)) → False := fun n f z => by
          rw [k2] at z
          rcases z with z | z <;> cases z
        refine ⟨h.setSlot c (.inl rfl) nt ⟨v, r', a, us, k1, k2, upd_same, q.pre c.pre⟩, c.ext ⟨_, k2⟩ (fun z => nomatch z) (fun z => nomatch z) (fun _ z => nomatch z) (fun n f z => z) fun n C dx fs z _ => ?_⟩
        rw [k2] at z
        cases z
  | fl n f =>
    have e' : (match getF s.hp n f with
      | some (.own xs) => some xs
      | _ => none) = some xs := e
    cases g : getF s.hp n f with
    | none => rw [g] at e'; cases e'
    | some sv =>
      rw [g] at e'
      cases sv with
      | val x => cases e'
      | lk x => cases e'
      | own zs =>
        cases e'
        obtain ⟨C, fs, k1, k2⟩ := getF_some g
        obtain ⟨r0, h1, h2, dx, fvs, f1, f2, f3⟩ := h.hr.objs n _ k1
        obtain ⟨u, l1, l2⟩ := flds_get f2 k2
        obtain ⟨r', C', dx', fs', u', q1, q2, q3, q4, q5⟩ := r
        rw [h1] at q1
        cases q1
        rw [f1] at q3
        cases q3
        rw [l1] at q4
        cases q4
        obtain ⟨a, vs, rfl, r2, r3, r4⟩ := l2
        obtain rfl := q5 ⟨a, rfl, .inl r2⟩
        refine ⟨a, vs, rfl, r3, r4, fun ys us q => ?_⟩
        have c : Chg w H w (upd H a (.lst us)) a (.fld n f) := chg_set r2 r3 (fun z => nomatch z)
        refine ⟨⟨h.hr.setField c (.inl rfl) k1 k2 (fun m g z => ?_) (fun v z => ?_), h.sl, fun i sv q => Chg.slots (s := s) c h (fun _ z => nomatch z) (fun _ z => nomatch z) i sv q⟩,
          c.ext ⟨_, r2⟩ (fun z => nomatch z) (fun _ => ⟨_, r2, rfl⟩) (fun _ z => nomatch z) (fun n f z => z) fun n C dx fs z _ => ?_⟩
        · rw [r2] at z
          rcases z with z | z <;> cases z
          exact ⟨rfl, rfl, rfl⟩
        · obtain ⟨b, vs', rfl, z2, z3, z4⟩ := z
          have e1 := (h.hr.tok b n f (.inl z2)).2 r0 _ _ _ h1 f1
          rw [l1] at e1
          cases e1
          exact ⟨a, us, rfl, r2, upd_same, q.pre c.pre⟩
        · rw [r2] at z
          cases z
  | ref n =>
    have r' : Rv K w H (.ref n) v := r
    unfold Rv at r'
    obtain ⟨a, h1, rfl⟩ := r'
    have e' : (match s.hp[n]? with
      | some (.box xs) => some xs
      | _ => none) = some xs := e
    cases g : s.hp[n]? with
    | none => rw [g] at e'; cases e'
    | some ob =>
      rw [g] at e'
      cases ob with
      | ins C fs => cases e'
      | box ys =>
        cases e'
        obtain ⟨r0, k1, k2, vs, k3, k4⟩ := h.hr.objs n _ g
        rw [h1] at k1
        cases k1
        refine ⟨a, vs, rfl, k3, k4, fun ys us q => ?_⟩
        have c : Chg w H w (upd H a (.lst us)) a (.cell n) := chg_set k2 k3 (fun z => nomatch z)
        have hl : n < s.hp.length := (List.getElem?_eq_some_iff.mp g).1
        refine ⟨⟨⟨?_, c.dom h.hr.dom, fun b m f z => ?_, fun m ob z => ?_⟩, h.sl, fun i sv q => Chg.slots (s := s) c h (fun _ z => nomatch z) (fun _ z => nomatch z) i sv q⟩,
          c.ext ⟨_, k2⟩ (fun z => nomatch z) (fun _ => ⟨_, k2, rfl⟩) (fun m z => by cases z; exact k2) (fun n f z => z) fun m C dx fs z y => ?_⟩
        · show w.rho.length = (s.hp.set n (.box ys)).length
          rw [List.length_set]
          exact h.hr.rl
        · obtain ⟨⟨sv, z1, z2⟩, z3⟩ := h.hr.tok b m f z
          obtain ⟨C0, fs0, y1⟩ := getF_ob z1
          have ne : m ≠ n := fun x => by
            subst x
            rw [g] at y1
            cases y1
          refine ⟨⟨sv, ?_, z2⟩, fun r C dx fvs x1 x2 => ?_⟩
          · show getF (s.hp.set n (.box ys)) m f = some sv
            unfold getF at z1 ⊢
            rw [List.getElem?_set_ne fun x => ne x.symm]
            exact z1
          · have na : r ≠ a := fun x => by
              subst x
              rw [upd_same] at x2
              cases x2
            rw [upd_ne na] at x2
            exact z3 r C dx fvs x1 x2
        · have z' : (s.hp.set n (.box ys))[m]? = some ob := z
          by_cases x : n = m
          · subst x
            rw [List.getElem?_set_self hl] at z'
            cases z'
            exact ⟨a, h1, k2, us, upd_same, q.pre c.pre⟩
          · rw [List.getElem?_set_ne x] at z'
            obtain ⟨r1, j1, j2, j3⟩ := h.hr.objs m ob z'
            have na : r1 ≠ a := fun y => by
              subst y
              rw [k2] at j2
              cases j2
              exact x rfl
            refine ⟨r1, j1, j2, ?_⟩
            cases ob with
            | box xs =>
              obtain ⟨vs, a1, a2⟩ := j3
              exact ⟨vs, (upd_ne na).trans a1, a2.pre c.pre⟩
            | ins C' fs' =>
              obtain ⟨dx, fvs, a1, a2, a3⟩ := j3
              exact ⟨dx, fvs, (upd_ne na).trans a1, flds_imp (fun g sv v z => c.sv (fun y => nomatch y) (fun y => nomatch y) z) a2, a3⟩
        · rw [k3] at y
          cases y
  | _ => cases e
end
end MP
end
section
set_option maxRecDepth 100000
set_option maxHeartbeats 1000000
set_option autoImplicit false
/-! MPg: what an outcome asks; operators. -/
namespace MP
open PySem PySem.Spec PyProof.Rows L2

/-- an exception's wish, by its class and fields, the state, the worlds -/
abbrev XZ := Nat → List (Str × D) → MSt → Wd → L2.St → Hp → Prop
/-- how a result lies: the world ahead, the world now -/
abbrev RelT (α β : Type) := Wd → Hp → Wd → L2.St → Hp → α → β → Prop
structure Anti {α β : Type} (R : RelT α β) : Prop where
  back : ∀ {w0 H0 w1 H1 w σ H a b}, Ext w0 H0 w1 H1 → R w1 H1 w σ H a b → R w0 H0 w σ H a b
section
variable (K : PySem.W.Frag) (cls : Nat → Addr) (Z : XZ)
def PostG {α β : Type} (R : RelT α β) (r : Res α) (w : Wd) (H : Hp) (σ : L2.St) (Q : β → Hp → Prop) : Prop :=
  match r with
  | .ok a s => ∀ w' b H', Ext w H w' H' → SR K cls w' s σ H' → R w H w' σ H' a b → Q b H'
  | .ex c fs s => ∀ w' H', Ext w H w' H' → SR K cls w' s σ H' → Z c fs s w' σ H'
  | .stuck => False
def tG {α β : Type} (R : RelT α β) (r : MSt → Res α) : L2.St → Hp → (β → Hp → Prop) → Prop := fun σ H Q => ∃ w s, SR K cls w s σ H ∧ PostG K cls Z R (r s) w H σ Q
def RD : RelT D V := fun w0 _ w σ H d v => Rp K w σ H d v ∧ New w0 d v
def RB : RelT Bool Bool := fun _ _ _ _ _ a b => a = b
def RDs : RelT (List D) (List V) := fun _ _ w σ H ds vs => Rps K w σ H ds vs
def RVs : RelT (List D) (List V) := fun _ _ w _ H ds vs => Rvs K w H ds vs
end
theorem New.back {w0 w1 : Wd} {H0 H1 : Hp} {d : D} {v : V} (e : Ext w0 H0 w1 H1) (h : New w1 d v) : New w0 d v := by
  cases d with
  | nw xs =>
    obtain ⟨a, rfl, n⟩ := h
    refine ⟨a, rfl, ?_⟩
    cases q : w0.own a with
    | none => rfl
    | some o =>
      obtain ⟨o', z⟩ := e.som a o q
      rw [n] at z
      cases z
  | _ => trivial
theorem anti_RD {K : PySem.W.Frag} : Anti (RD K) := ⟨fun e h => ⟨h.1, h.2.back e⟩⟩
theorem anti_RB : Anti RB := ⟨fun _ h => h⟩
theorem anti_RDs {K : PySem.W.Frag} : Anti (RDs K) := ⟨fun _ h => h⟩
theorem anti_RVs {K : PySem.W.Frag} : Anti (RVs K) := ⟨fun _ h => h⟩
section
variable {K : PySem.W.Frag} {cls : Nat → Addr} {Z : XZ} {α β γ δ : Type} {R : RelT α β} {R2 : RelT γ δ} {w w1 : Wd} {H H1 : Hp} {σ : L2.St} {s s1 : MSt}
theorem PostG.imp {r : Res α} {Q Q' : β → Hp → Prop} (h : PostG K cls Z R r w H σ Q) (i : ∀ b H', Q b H' → Q' b H') : PostG K cls Z R r w H σ Q' := by
  cases r with
  | ok a s => exact fun w' b H' e sr rr => i _ _ (h w' b H' e sr rr)
  | ex c fs s => exact h
  | stuck => exact h
theorem PostG.later {r : Res α} {Q : β → Hp → Prop} (A : Anti R) (e : Ext w H w1 H1) (h : PostG K cls Z R r w H σ Q) : PostG K cls Z R r w1 H1 σ Q := by
  cases r with
  | ok a s => exact fun w' b H' e' sr rr => h w' b H' (e.trans e') sr (A.back e rr)
  | ex c fs s => exact fun w' H' e' sr => h w' H' (e.trans e') sr
  | stuck => exact h
theorem PostG.bind {r : Res α} {k : α → MSt → Res γ} {Q : δ → Hp → Prop} (A : Anti R2) (h : PostG K cls Z R2 (r.bind k) w H σ Q) :
    PostG K cls Z R r w H σ (fun b H1 => ∃ w1 a s1, Ext w H w1 H1 ∧ SR K cls w1 s1 σ H1 ∧ R w H w1 σ H1 a b ∧ PostG K cls Z R2 (k a s1) w1 H1 σ Q) := by
  cases r with
  | ok a s => exact fun w' b H' e sr rr => ⟨w', a, s, e, sr, rr, PostG.later A e h⟩
  | ex c fs s => exact h
  | stuck => exact h
theorem PostG.bind2 {r : Res α} {k : α → MSt → Res γ} {Q : δ → Hp → Prop} (A : Anti R) (h : PostG K cls Z R2 (r.bind k) w H σ Q) (e : Ext w H w1 H1) :
    PostG K cls Z R r w1 H1 σ (fun b H2 => ∃ w2 a s2, Ext w1 H1 w2 H2 ∧ SR K cls w2 s2 σ H2 ∧ R w1 H1 w2 σ H2 a b ∧ PostG K cls Z R2 (k a s2) w H σ Q) := by
  cases r with
  | ok a s => exact fun w' b H' e' sr rr => ⟨w', a, s, e', sr, rr, h⟩
  | ex c fs s => exact fun w' H' e' sr => h w' H' (e.trans e') sr
  | stuck => exact h
theorem PostG.opt {o : Option α} {k : α → MSt → Res γ} {Q : δ → Hp → Prop} (h : PostG K cls Z R2 ((MP.opt o s).bind k) w H σ Q) : ∃ a, o = some a ∧ PostG K cls Z R2 (k a s) w H σ Q := by
  cases o with
  | none => exact h.elim
  | some a => exact ⟨a, rfl, h⟩
theorem PostG.opt1 {o : Option α} {Q : β → Hp → Prop} (h : PostG K cls Z R (MP.opt o s) w H σ Q) : ∃ a, o = some a ∧ PostG K cls Z R (.ok a s) w H σ Q := by
  cases o with
  | none => exact h.elim
  | some a => exact ⟨a, rfl, h⟩
theorem PostG.opt2 {o : Option (α × MSt)} {k : α → MSt → Res γ} {Q : δ → Hp → Prop} (h : PostG K cls Z R2 ((MP.opt2 o).bind k) w H σ Q) : ∃ a s', o = some (a, s') ∧ PostG K cls Z R2 (k a s') w H σ Q := by
  cases o with
  | none => exact h.elim
  | some a => exact ⟨a.1, a.2, rfl, h⟩
theorem PostG.opt21 {o : Option (α × MSt)} {Q : β → Hp → Prop} (h : PostG K cls Z R (MP.opt2 o) w H σ Q) : ∃ a s', o = some (a, s') ∧ PostG K cls Z R (.ok a s') w H σ Q := by
  cases o with
  | none => exact h.elim
  | some a => exact ⟨a.1, a.2, rfl, h⟩
/-- the end: here and now -/
theorem PostG.now {a : α} {b : β} {Q : β → Hp → Prop} (h : PostG K cls Z R (.ok a s) w H σ Q) (sr : SR K cls w s σ H) (r : R w H w σ H a b) : Q b H := h w b H ExtB.refl sr r
theorem tG.bind {r : MSt → Res α} {k : α → MSt → Res γ} {Q : δ → Hp → Prop} (A : Anti R2) (h : tG K cls Z R2 (fun s => (r s).bind k) σ H Q) :
    tG K cls Z R r σ H (fun b H1 => ∃ w H0 w1 a s1, SR K cls w1 s1 σ H1 ∧ R w H0 w1 σ H1 a b ∧ PostG K cls Z R2 (k a s1) w1 H1 σ Q) := by
  obtain ⟨w, s, sr, po⟩ := h
  exact ⟨w, s, sr, (PostG.bind A po).imp fun b H' ⟨w1, a, s1, _, h1, h2, h3⟩ => ⟨w, H, w1, a, s1, h1, h2, h3⟩⟩
theorem tG.imp {r : MSt → Res α} {Q Q' : β → Hp → Prop} (h : tG K cls Z R r σ H Q) (i : ∀ b H', Q b H' → Q' b H') : tG K cls Z R r σ H Q' := by
  obtain ⟨w, s, sr, po⟩ := h
  exact ⟨w, s, sr, po.imp i⟩
end

/-! ### new things -/
section
variable {K : PySem.W.Frag} {cls : Nat → Addr} {w : Wd} {H : Hp} {σ : L2.St} {s : MSt}
/-- a new tuple -/
theorem new_tup {Q : VK} {xs : List D} {vs : List V} (sr : SR K cls w s σ H) (r : Rvs K w H xs vs) (q : ∀ w' v H', Ext w H w' H' → SR K cls w' s σ H' → RD K w H w' σ H' (.tup xs) v → Q v H') : ∀ p, H p = none → Q (.ref p) (upd H p (.tup vs)) := fun p hp => by
  have k : Keep w H w (upd H p (.tup vs)) := Keep.plain hp sr.hr.dom
  have e : Ext w H w (upd H p (.tup vs)) := k.ext sr.hr.dom
  refine q w _ _ e (k.sr sr) ⟨?_, trivial⟩
  show Rv K w _ (.tup xs) _
  unfold Rv
  exact ⟨p, vs, rfl, SqT.of upd_same, r.ext e⟩
/-- a new list -/
theorem new_lst {Q : VK} {xs : List D} {vs : List V} (sr : SR K cls w s σ H) (r : Rvs K w H xs vs) (q : ∀ w' v H', Ext w H w' H' → SR K cls w' s σ H' → RD K w H w' σ H' (.nw xs) v → Q v H') : ∀ p, H p = none → Q (.ref p) (upd H p (.lst vs)) := fun p hp => by
  have k : Keep w H (w.put p .tmp) (upd H p (.lst vs)) := Keep.list hp sr.hr.dom
  have e : Ext w H (w.put p .tmp) (upd H p (.lst vs)) := k.ext sr.hr.dom
  exact q _ _ _ e (k.sr sr) ⟨⟨p, vs, rfl, put_same, upd_same, r.ext e⟩, p, rfl, no_own hp sr.hr.dom⟩
end

/-! ### operators -/
theorem OpR.or {X : Cx} {f : Value → Value → Sem Value} {r r' : R2} (h : OpR X f r) (h' : OpR X f r') : OpR X f (fun x y H Q => r x y H Q ∨ r' x y H Q) := by
  intro pins s σ H x y v u Q I rx ry q
  rcases q with q | q
  · exact h pins s σ H x y v u Q I rx ry q
  · exact h' pins s σ H x y v u Q I rx ry q
theorem OpR.no {X : Cx} {f : Value → Value → Sem Value} : OpR X f (fun _ _ _ _ => False) := fun _ _ _ _ _ _ _ _ _ _ _ _ q => q.elim
def rStr : R2 := fun x y H Q => ∃ i j, x = .str i ∧ y = .str j ∧ i.length + j.length ≤ sizeLine ∧ Q (.str (i ++ j)) H
def opr (K : PySem.W.Frag) : Operator → R2
  | .Add => fun x y H Q => rI0 (fun i j => .int (i + j)) x y H Q ∨ (rStr x y H Q ∨ (rCatA K x y H Q ∨ rCat x y H Q))
  | .Sub => rI0 fun i j => .int (i - j)
  | .Mult => fun x y H Q => rI CMul (fun i j => .int (i * j)) x y H Q ∨ rRep x y H Q
  | .Mod => rI (fun _ j => 0 < j) fun i j => .int (i % j)
  | .FloorDiv => rI CDiv fun i j => .int (i / j)
  | .Pow => rI CPow fun i j => .int (i ^ j.toNat)
  | _ => fun _ _ _ _ => False
theorem opr_ok {X : Cx} : ∀ op, OpR X (binaryOp op) (opr X.K op)
  | .Add => op_add.or (op_add_str.or (op_catA.or op_cat))
  | .Sub => op_sub
  | .Mult => op_mul.or op_rep
  | .Mod => op_mod
  | .FloorDiv => op_fdiv
  | .Pow => op_pow
  | .MatMult => OpR.no
  | .Div => OpR.no
  | .LShift => OpR.no
  | .RShift => OpR.no
  | .BitOr => OpR.no
  | .BitXor => OpR.no
  | .BitAnd => OpR.no
theorem smallMul_ok {i j : Int} (h : smallMul i j = true) : CMul i j := by
  unfold smallMul at h
  simp only [Bool.or_eq_true, Bool.and_eq_true, decide_eq_true_eq] at h
  exact h
section
variable {K : PySem.W.Frag} {cls : Nat → Addr} {w : Wd} {H : Hp} {σ : L2.St} {s : MSt}
theorem rp_int {i : Int} {v : V} (h : Rp K w σ H (.int i) v) : v = .int i := by
  have h' : Rv K w H (.int i) v := h
  unfold Rv at h'
  exact h'
theorem rp_str {z : Str} {v : V} (h : Rp K w σ H (.str z) v) : v = .str z := by
  have h' : Rv K w H (.str z) v := h
  unfold Rv at h'
  exact h'
theorem rp_bl {b : Bool} {v : V} (h : Rp K w σ H (.bl b) v) : v = .bl b := by
  have h' : Rv K w H (.bl b) v := h
  unfold Rv at h'
  exact h'
theorem rp_non {v : V} (h : Rp K w σ H .non v) : v = .non := by
  have h' : Rv K w H .non v := h
  unfold Rv at h'
  exact h'
theorem rp_tup {xs : List D} {v : V} (h : Rp K w σ H (.tup xs) v) : ∃ a vs, v = .ref a ∧ SqT K H a vs ∧ Rvs K w H xs vs := by
  have h' : Rv K w H (.tup xs) v := h
  unfold Rv at h'
  exact h'
theorem rd_int {i : Int} : RD K w H w σ H (.int i) (.int i) := ⟨by show Rv K w H (.int i) _; unfold Rv; rfl, trivial⟩
theorem rd_str {z : Str} : RD K w H w σ H (.str z) (.str z) := ⟨by show Rv K w H (.str z) _; unfold Rv; rfl, trivial⟩
theorem rd_bl {b : Bool} : RD K w H w σ H (.bl b) (.bl b) := ⟨by show Rv K w H (.bl b) _; unfold Rv; rfl, trivial⟩
theorem rd_non : RD K w H w σ H .non .non := ⟨by show Rv K w H .non _; unfold Rv; rfl, trivial⟩
/-- two ints -/
theorem binI_ok {Q : VK} {op : Operator} {i j k : Int} (e : binI op i j = some k) (q : Q (.int k) H) : opr K op (.int i) (.int j) H Q := by
  cases op with
  | Add => cases e; exact .inl ⟨i, j, rfl, rfl, q⟩
  | Sub => cases e; exact ⟨i, j, rfl, rfl, q⟩
  | Mult =>
    have e' : (if smallMul i j then some (i * j) else none) = some k := e
    split at e'
    · cases e'
      exact .inl ⟨i, j, rfl, rfl, smallMul_ok (by assumption), q⟩
    · cases e'
  | Mod =>
    have e' : (if 0 < j then some (i % j) else none) = some k := e
    split at e'
    · cases e'
      exact ⟨i, j, rfl, rfl, by assumption, q⟩
    · cases e'
  | FloorDiv =>
    have e' : (if 0 < j ∧ j < 1073741824 then some (i / j) else none) = some k := e
    split at e'
    · cases e'
      exact ⟨i, j, rfl, rfl, by assumption, q⟩
    · cases e'
  | Pow =>
    have e' : (if 0 ≤ j ∧ j ≤ 1000000 ∧ i.natAbs < 2 ^ 64 then some (i ^ j.toNat) else none) = some k := e
    split at e'
    · cases e'
      exact ⟨i, j, rfl, rfl, by assumption, q⟩
    · cases e'
  | _ => cases e
theorem binD_ok {Q : VK} {op : Operator} {x y z : D} {v u : V} (sr : SR K cls w s σ H) (rx : Rp K w σ H x v) (ry : Rp K w σ H y u) (e : binD op x y s = some z)
    (q : ∀ w' v H', Ext w H w' H' → SR K cls w' s σ H' → RD K w H w' σ H' z v → Q v H') : opr K op v u H Q := by
  unfold binD at e
  split at e
  · rename_i i j
    cases h : binI op i j with
    | none => rw [h] at e; cases e
    | some k =>
      rw [h] at e
      cases e
      rw [rp_int rx, rp_int ry]
      exact binI_ok h (q w _ H ExtB.refl sr rd_int)
  · rename_i a b
    split at e
    · rename_i h
      obtain ⟨rfl, hz⟩ := h
      cases e
      rw [rp_str rx, rp_str ry]
      exact .inr (.inl ⟨a, b, rfl, rfl, hz, q w _ H ExtB.refl sr rd_str⟩)
    · cases e
  · rename_i xs ys
    split at e
    · rename_i h
      obtain ⟨rfl, hz⟩ := h
      cases e
      obtain ⟨a, vs, rfl, h1, h2⟩ := rp_tup rx
      obtain ⟨b, us, rfl, h3, h4⟩ := rp_tup ry
      have both := h2.append h4
      refine .inr (.inr (.inl ⟨a, b, vs, us, rfl, rfl, h1, h3, by rw [h2.length, h4.length]; exact hz, fun z => ?_, fun _ z => ?_, fun _ _ => new_tup sr both q⟩))
      · subst z
        rw [List.nil_append] at both
        refine q w _ H ExtB.refl sr ⟨?_, trivial⟩
        show Rv K w H (.tup (xs ++ ys)) _
        unfold Rv
        exact ⟨b, us, rfl, h3, both⟩
      · subst z
        rw [List.append_nil] at both
        refine q w _ H ExtB.refl sr ⟨?_, trivial⟩
        show Rv K w H (.tup (xs ++ ys)) _
        unfold Rv
        exact ⟨a, vs, rfl, h1, both⟩
    · cases e
  · rename_i k h1
    cases h : lview x s with
    | none => rw [h] at e; cases e
    | some xs =>
      rw [h] at e
      have e' : (if op = .Mult ∧ -(2 ^ 63) ≤ k ∧ k < 2 ^ 63 ∧ xs.length * k.toNat ≤ sizeLine then some (D.nw (List.replicate k.toNat xs).flatten) else none) = some z := e
      split at e'
      · rename_i c
        obtain ⟨rfl, c1, c2, c3⟩ := c
        cases e'
        obtain ⟨a, vs, rfl, k1, k2⟩ := lview_ok sr rx h
        rw [rp_int ry]
        exact .inr ⟨a, k, vs, rfl, rfl, k1, c1, c2, by rw [k2.length]; exact c3, new_lst sr (k2.replicate _) q⟩
      · cases e'
  · rename_i h1 h2 h3 h4
    cases h : lview x s with
    | none => rw [h] at e; cases e
    | some xs =>
      cases h' : lview y s with
      | none => rw [h, h'] at e; cases e
      | some ys =>
        rw [h, h'] at e
        have e' : (if op = .Add ∧ xs.length + ys.length ≤ sizeLine then some (D.nw (xs ++ ys)) else none) = some z := e
        split at e'
        · rename_i c
          obtain ⟨rfl, c1⟩ := c
          cases e'
          obtain ⟨a, vs, rfl, k1, k2⟩ := lview_ok sr rx h
          obtain ⟨b, us, rfl, k3, k4⟩ := lview_ok sr ry h'
          exact .inr (.inr (.inr ⟨a, b, vs, us, rfl, rfl, k1, k3, by rw [k2.length, k4.length]; exact c1, new_lst sr (k2.append k4) q⟩))
        · cases e'
end
end MP
end
section
set_option maxRecDepth 100000
set_option maxHeartbeats 1000000
set_option autoImplicit false
/-! MPh: comparisons, truth, subscripts, slices. -/
namespace MP
open PySem PySem.Spec PyProof.Rows L2
section
variable {K : PySem.W.Frag} {cls : Nat → Addr} {w : Wd} {H : Hp} {σ : L2.St} {s : MSt}
/-! ### plain data -/
mutual
theorem dp_of : ∀ {d : D} {v : V}, Rv K w H d v → d.pure = true → Dp K H v d.py
  | .non, _, h, _ => by unfold Rv at h; subst h; exact .non
  | .bl b, _, h, _ => by unfold Rv at h; subst h; exact .bl b
  | .int i, _, h, _ => by unfold Rv at h; subst h; exact .int i
  | .str z, _, h, _ => by unfold Rv at h; subst h; exact .str z
  | .tup xs, _, h, p => by
    unfold Rv at h
    obtain ⟨a, vs, rfl, h2, h3⟩ := h
    exact .tup h2 (dps_of h3 p)
  | .lst xs, _, h, p => by
    unfold Rv at h
    obtain ⟨a, vs, rfl, h2, h3⟩ := h
    exact .lst (SqL.of h2.2) (dps_of h3 p)
  | .nw _, _, h, _ => by unfold Rv at h; exact h.elim
  | .ref _, _, _, p => nomatch p
  | .sl _, _, h, _ => by unfold Rv at h; exact h.elim
  | .fl _ _, _, h, _ => by unfold Rv at h; exact h.elim
  | .scr _, _, _, p => nomatch p
theorem dps_of : ∀ {ds : List D} {vs : List V}, Rvs K w H ds vs → pures ds = true → DpAll K H vs (pys ds)
  | [], _, h, _ => by rw [h.nil]; exact .nil
  | x :: xs, _, h, p => by
    obtain ⟨v, r, rfl, h2, h3⟩ := h.cons
    have p' : x.pure = true ∧ pures xs = true := by
      have q : (x.pure && pures xs) = true := p
      simpa using q
    exact .cons (dp_of h2 p'.1) (dps_of h3 p'.2)
end
theorem pview_ok {d : D} {v : V} {p : PyData} (sr : SR K cls w s σ H) (r : Rp K w σ H d v) (e : pview d s = some p) : Dp K H v p := by
  have go : d.hard = true → (if d.pure then some d.py else none) = some p → Dp K H v p := fun q z => by
    split at z
    · cases z
      exact dp_of (r.hard q) (by assumption)
    · cases z
  have lst : (match lview d s with
      | some xs => if pures xs then some (PyData.list (pys xs)) else none
      | none => none) = some p → Dp K H v p := fun z => by
    cases g : lview d s with
    | none => rw [g] at z; cases z
    | some xs =>
      rw [g] at z
      have z' : (if pures xs then some (PyData.list (pys xs)) else none) = some p := z
      split at z'
      · cases z'
        obtain ⟨a, vs, rfl, h2, h3⟩ := lview_ok sr r g
        exact .lst (SqL.of h2) (dps_of h3 (by assumption))
      · cases z'
  cases d with
  | nw xs => exact lst e
  | sl i => exact lst e
  | fl n f => exact lst e
  | _ => exact go rfl e

/-! ### == -/
def rEqA (K : PySem.W.Frag) : R2 := fun x y H Q => rEq x y H Q ∨ rEqD K x y H Q
def rNeA (K : PySem.W.Frag) : R2 := fun x y H Q => rNe x y H Q ∨ rNeD K x y H Q
theorem eqS_ok {x y : D} {b : Bool} {v u : V} (rx : Rp K w σ H x v) (ry : Rp K w σ H y u) (e : eqS x y = some b) : scal v u = true ∧ decide (v = u) = b := by
  unfold eqS at e
  split at e <;> first
    | cases e
    | skip
  all_goals first
    | (rw [rp_non rx, rp_non ry]; exact ⟨rfl, by simp⟩)
    | (rw [rp_non rx, rp_int ry]; exact ⟨rfl, by simp⟩)
    | (rw [rp_int rx, rp_non ry]; exact ⟨rfl, by simp⟩)
    | (rw [rp_non rx, rp_bl ry]; exact ⟨rfl, by simp⟩)
    | (rw [rp_bl rx, rp_non ry]; exact ⟨rfl, by simp⟩)
    | (rw [rp_non rx, rp_str ry]; exact ⟨rfl, by simp⟩)
    | (rw [rp_str rx, rp_non ry]; exact ⟨rfl, by simp⟩)
    | (rw [rp_int rx, rp_int ry]; exact ⟨rfl, dec_int⟩)
    | (rw [rp_bl rx, rp_bl ry]; exact ⟨rfl, dec_bl⟩)
    | (rw [rp_str rx, rp_str ry]; exact ⟨rfl, dec_str⟩)
    | (rw [rp_int rx, rp_str ry]; exact ⟨rfl, by simp⟩)
    | (rw [rp_str rx, rp_int ry]; exact ⟨rfl, by simp⟩)
    | (rw [rp_bl rx, rp_str ry]; exact ⟨rfl, by simp⟩)
    | (rw [rp_str rx, rp_bl ry]; exact ⟨rfl, by simp⟩)
theorem eqD_ok {Q : VK} {x y : D} {b : Bool} {v u : V} (sr : SR K cls w s σ H) (rx : Rp K w σ H x v) (ry : Rp K w σ H y u) (e : eqD x y s = some b) :
    (Q (.bl b) H → rEqA K v u H Q) ∧ (Q (.bl (!b)) H → rNeA K v u H Q) := by
  unfold eqD at e
  cases h : eqS x y with
  | some b' =>
    rw [h] at e
    cases e
    obtain ⟨h1, h2⟩ := eqS_ok rx ry h
    refine ⟨fun q => .inl ⟨h1, by rw [h2]; exact q⟩, fun q => .inl ⟨h1, by rw [h2]; exact q⟩⟩
  | none =>
    rw [h] at e
    cases hx : pview x s with
    | none => rw [hx] at e; cases e
    | some a =>
      cases hy : pview y s with
      | none => rw [hx, hy] at e; cases e
      | some c =>
        rw [hx, hy] at e
        have e' : (if SeqAt.shaped a && SeqAt.shaped c then some (PyData.eqv a c) else none) = some b := e
        split at e'
        · rename_i z
          cases e'
          have z' : SeqAt.shaped a = true ∧ SeqAt.shaped c = true := by simpa using z
          exact ⟨fun q => .inr ⟨a, c, pview_ok sr rx hx, pview_ok sr ry hy, z'.1, z'.2, q⟩, fun q => .inr ⟨a, c, pview_ok sr rx hx, pview_ok sr ry hy, z'.1, z'.2, q⟩⟩
        · cases e'
/-! ### is -/
theorem isNon_hard {x : D} {v : V} (r : Rv K w H x v) : decide (v = .non) = isNon x := by
  cases x with
  | nw xs => unfold Rv at r; exact r.elim
  | sl i => unfold Rv at r; exact r.elim
  | fl n f => unfold Rv at r; exact r.elim
  | non => unfold Rv at r; subst r; simp [isNon]
  | bl b => unfold Rv at r; subst r; simp [isNon]
  | int i => unfold Rv at r; subst r; simp [isNon]
  | str z => unfold Rv at r; subst r; simp [isNon]
  | tup xs => unfold Rv at r; obtain ⟨a, vs, rfl, _⟩ := r; simp [isNon]
  | lst xs => unfold Rv at r; obtain ⟨a, vs, rfl, _⟩ := r; simp [isNon]
  | ref n => unfold Rv at r; obtain ⟨a, _, rfl⟩ := r; simp [isNon]
  | scr ns => unfold Rv at r; obtain ⟨a, rfl, _⟩ := r; simp [isNon]
theorem isNon_ok {x : D} {v : V} {b : Bool} (sr : SR K cls w s σ H) (r : Rp K w σ H x v) (e : isNonS x s = some b) : decide (v = .non) = b := by
  have hard : x.hard = true → some (isNon x) = some b → decide (v = .non) = b := fun q z => by
    cases z
    exact isNon_hard (r.hard q)
  cases x with
  | nw xs =>
    cases e
    obtain ⟨a, vs, rfl, _⟩ := r
    simp
  | sl i =>
    unfold isNonS at e
    cases g : getS s i with
    | none => simp only [g] at e; cases e
    | some sv =>
      simp only [g] at e
      obtain ⟨v', h1, h2⟩ := sr.slots i sv (getS_of g)
      have r' : σ[i]? = some (some v) := r
      rw [r'] at h1
      cases h1
      cases sv with
      | val d => cases e; exact isNon_hard h2
      | own xs => cases e; obtain ⟨a, vs, rfl, _⟩ := h2; simp
      | lk xs => cases e; obtain ⟨a, vs, rfl, _⟩ := h2; simp
  | fl n f =>
    unfold isNonS at e
    cases g : getF s.hp n f with
    | none => simp only [g] at e; cases e
    | some sv =>
      simp only [g] at e
      have go : lview (.fl n f) s ≠ none → b = false → decide (v = .non) = b := fun z y => by
        cases q : lview (.fl n f) s with
        | none => exact absurd q z
        | some xs =>
          obtain ⟨a, vs, rfl, _⟩ := lview_ok sr r q
          rw [y]
          simp
      cases sv with
      | val d => cases e
      | own xs =>
        cases e
        refine go (fun q => ?_) rfl
        have q' : (getF s.hp n f).bind flList = none := q
        rw [g] at q'
        cases q'
      | lk xs =>
        cases e
        refine go (fun q => ?_) rfl
        have q' : (getF s.hp n f).bind flList = none := q
        rw [g] at q'
        cases q'
  | _ => exact hard rfl e
def rIs : R2 := fun x y H Q => (y = .non ∧ Q (.bl (decide (x = .non))) H) ∨ ∃ a b, x = .bl a ∧ y = .bl b ∧ Q (.bl (decide (a = b))) H
def rIsNot : R2 := fun x y H Q => (y = .non ∧ Q (.bl (!decide (x = .non))) H) ∨ ∃ a b, x = .bl a ∧ y = .bl b ∧ Q (.bl (!decide (a = b))) H
theorem isD_ok {Q : VK} {x y : D} {b : Bool} {v u : V} (sr : SR K cls w s σ H) (rx : Rp K w σ H x v) (ry : Rp K w σ H y u) (e : isD x y s = some b) :
    (Q (.bl b) H → rIs v u H Q) ∧ (Q (.bl (!b)) H → rIsNot v u H Q) := by
  unfold isD at e
  split at e
  · rw [rp_non ry]
    have z := isNon_ok sr rx e
    exact ⟨fun q => .inl ⟨rfl, by rw [z]; exact q⟩, fun q => .inl ⟨rfl, by rw [z]; exact q⟩⟩
  · split at e
    · cases e
      rw [rp_bl rx, rp_bl ry]
      have z : ∀ a' b' : Bool, decide (a' = b') = (a' == b') := fun a' b' => by
        rw [Bool.eq_iff_iff]
        simp
      exact ⟨fun q => .inr ⟨_, _, rfl, rfl, by rw [z]; exact q⟩, fun q => .inr ⟨_, _, rfl, rfl, by rw [z]; exact q⟩⟩
    · cases e
  · cases e
/-! ### in -/
theorem flat_of {x : D} {v : V} (r : Rp K w σ H x v) (f : flatD x = true) : flatV v = true := by
  cases x with
  | non => rw [rp_non r]; rfl
  | bl b => rw [rp_bl r]; rfl
  | int i => rw [rp_int r]; rfl
  | str z => rw [rp_str r]; rfl
  | _ => cases f
theorem eqF_of {x y : D} {v u : V} (rx : Rp K w σ H x v) (ry : Rp K w σ H y u) (fx : flatD x = true) (fy : flatD y = true) : eqV v u = eqF x y := by
  cases x with
  | non =>
    rw [rp_non rx]
    cases y with
    | non => rw [rp_non ry]; rfl
    | bl b => rw [rp_bl ry]; rfl
    | int i => rw [rp_int ry]; rfl
    | str z => rw [rp_str ry]; rfl
    | _ => cases fy
  | bl b =>
    rw [rp_bl rx]
    cases y with
    | non => rw [rp_non ry]; rfl
    | bl b => rw [rp_bl ry]; rfl
    | int i => rw [rp_int ry]; rfl
    | str z => rw [rp_str ry]; rfl
    | _ => cases fy
  | int i =>
    rw [rp_int rx]
    cases y with
    | non => rw [rp_non ry]; rfl
    | bl b => rw [rp_bl ry]; rfl
    | int i => rw [rp_int ry]; rfl
    | str z => rw [rp_str ry]; rfl
    | _ => cases fy
  | str z =>
    rw [rp_str rx]
    cases y with
    | non => rw [rp_non ry]; rfl
    | bl b => rw [rp_bl ry]; rfl
    | int i => rw [rp_int ry]; rfl
    | str z => rw [rp_str ry]; rfl
    | _ => cases fy
  | _ => cases fx
theorem flats_of {x : D} {v : V} (rx : Rp K w σ H x v) (fx : flatD x = true) : ∀ {ds : List D} {vs : List V}, Rvs K w H ds vs → ds.all flatD = true → vs.all flatV = true ∧ inV v vs = ds.any fun z => eqF z x
  | [], _, h, _ => by rw [h.nil]; exact ⟨rfl, rfl⟩
  | d :: ds, _, h, f => by
    obtain ⟨u, r, rfl, h2, h3⟩ := h.cons
    rw [List.all_cons, Bool.and_eq_true] at f
    obtain ⟨i1, i2⟩ := flats_of rx fx h3 f.2
    have r2 : Rp K w σ H d u := h2.rp
    refine ⟨by rw [List.all_cons, flat_of r2 f.1, i1]; rfl, ?_⟩
    show (eqV u v || inV v r) = _
    rw [List.any_cons, eqF_of r2 rx f.1 fx, i2]
def rInT (K : PySem.W.Frag) : R2 := fun x y H Q => ∃ d ds, Dp K H x d ∧ Dp K H y (.tuple ds) ∧ SeqAt.shaped d = true ∧ SeqAt.shaped (.tuple ds) = true ∧ Q (.bl (ds.any fun z => PyData.eqv z d)) H
def rNotInT (K : PySem.W.Frag) : R2 := fun x y H Q => ∃ d ds, Dp K H x d ∧ Dp K H y (.tuple ds) ∧ SeqAt.shaped d = true ∧ SeqAt.shaped (.tuple ds) = true ∧ Q (.bl (!ds.any fun z => PyData.eqv z d)) H
theorem op_inT {X : Cx} (hu : X.A.units + 65 < cLine) : OpR X (compareOp .In) (rInT X.K) := by
  intro pins s σ H x y v u Q I rx ry h
  obtain ⟨d, ds, hd, he, sd, se, q⟩ := h
  obtain ⟨as, r1⟩ := Dp.reads I d x v hd rx
  obtain ⟨bs, r2⟩ := Dp.reads I (.tuple ds) y u he ry
  refine SeqAt.in_tuple_reads r2 r1 (by simpa [PyData.canLay0] using SeqAt.canLay_of_shaped se) (SeqAt.canLay_of_shaped sd) (room_in_shaped sd hu) ⟨.bl _, H, I, rfl, q⟩
theorem op_notInT {X : Cx} (hu : X.A.units + 65 < cLine) : OpR X (compareOp .NotIn) (rNotInT X.K) := by
  intro pins s σ H x y v u Q I rx ry h
  obtain ⟨d, ds, hd, he, sd, se, q⟩ := h
  obtain ⟨as, r1⟩ := Dp.reads I d x v hd rx
  obtain ⟨bs, r2⟩ := Dp.reads I (.tuple ds) y u he ry
  refine SeqAt.notIn_tuple_reads r2 r1 (by simpa [PyData.canLay0] using SeqAt.canLay_of_shaped se) (SeqAt.canLay_of_shaped sd) (room_in_shaped sd hu) ⟨.bl _, H, I, rfl, q⟩
def rSign : R2 := fun x y H Q => ∃ (c : Nat) (z : Str), x = .str ⟨#[c]⟩ ∧ y = .str z ∧ Q (.bl (decide (c ∈ z.cps.toList))) H
def rNoSign : R2 := fun x y H Q => ∃ (c : Nat) (z : Str), x = .str ⟨#[c]⟩ ∧ y = .str z ∧ Q (.bl (!decide (c ∈ z.cps.toList))) H
def rSub : R2 := fun x y H Q => ∃ i j, x = .str i ∧ y = .str j ∧ Q (.bl (!(Builtin.Str.occurrences j i 0 j.length 1).isEmpty)) H
def rNoSub : R2 := fun x y H Q => ∃ i j, x = .str i ∧ y = .str j ∧ Q (.bl (!(!(Builtin.Str.occurrences j i 0 j.length 1).isEmpty))) H
def rInA (K : PySem.W.Frag) : R2 := fun x y H Q => rIn K false x y H Q ∨ (rInD K x y H Q ∨ (rInT K x y H Q ∨ (rSign x y H Q ∨ rSub x y H Q)))
def rNotInA (K : PySem.W.Frag) : R2 := fun x y H Q => rIn K true x y H Q ∨ (rNotInD K x y H Q ∨ (rNotInT K x y H Q ∨ (rNoSign x y H Q ∨ rNoSub x y H Q)))
theorem one_sign {a : Str} (h : a.cps.size = 1) : a = ⟨#[a.cps.getD 0 0]⟩ := by
  cases a with
  | mk cps =>
    have h' : cps.size = 1 := h
    congr 1
    apply Array.ext
    · simpa using h'
    · intro i h1 h2
      have : i = 0 := by omega
      subst this
      simp [Array.getD, h']
theorem inD_ok {Q : VK} {x y : D} {b : Bool} {v u : V} (sr : SR K cls w s σ H) (rx : Rp K w σ H x v) (ry : Rp K w σ H y u) (e : inD x y s = some b) :
    (Q (.bl b) H → rInA K v u H Q) ∧ (Q (.bl (!b)) H → rNotInA K v u H Q) := by
  unfold inD at e
  split at e
  · rename_i z
    split at e
    · rename_i a
      rw [rp_str rx, rp_str ry]
      split at e
      · rename_i h1
        cases e
        refine ⟨fun q => .inr (.inr (.inr (.inl ⟨a.cps.getD 0 0, z, ?_, rfl, q⟩))), fun q => .inr (.inr (.inr (.inl ⟨a.cps.getD 0 0, z, ?_, rfl, q⟩)))⟩
        · exact congrArg V.str (one_sign h1)
        · exact congrArg V.str (one_sign h1)
      · cases e
        exact ⟨fun q => .inr (.inr (.inr (.inr ⟨a, z, rfl, rfl, q⟩))), fun q => .inr (.inr (.inr (.inr ⟨a, z, rfl, rfl, q⟩)))⟩
    · cases e
  · cases g : sview y s with
    | none => rw [g] at e; cases e
    | some ys =>
      rw [g] at e
      have e' : (if flatD x && ys.all flatD then some (ys.any fun z => eqF z x) else inP (pview x s) (pview y s)) = some b := e
      obtain ⟨a, vs, rfl, h2, h3⟩ := sview_ok sr ry g
      have hs : SqL K H a vs ∨ SqT K H a vs := by
        rcases h2 with h2 | h2
        · exact .inl (SqL.of h2)
        · exact .inr h2
      split at e'
      · rename_i f
        rw [Bool.and_eq_true] at f
        cases e'
        obtain ⟨i1, i2⟩ := flats_of rx f.1 h3 f.2
        refine ⟨fun q => .inl ⟨a, vs, rfl, hs, flat_of rx f.1, i1, ?_⟩, fun q => .inl ⟨a, vs, rfl, hs, flat_of rx f.1, i1, ?_⟩⟩
        · show Q (.bl (inV v vs)) H
          rw [i2]
          exact q
        · show Q (.bl (!inV v vs)) H
          rw [i2]
          exact q
      · cases hx : pview x s with
        | none => rw [hx] at e'; unfold inP at e'; cases e'
        | some p =>
          cases hy : pview y s with
          | none => rw [hx, hy] at e'; unfold inP at e'; cases e'
          | some q =>
            rw [hx, hy] at e'
            have d1 := pview_ok sr rx hx
            have d2 := pview_ok sr ry hy
            cases q with
            | list ps =>
              have e2 : (if SeqAt.shaped p && SeqAt.shaped (.list ps) then some (ps.any fun z => PyData.eqv z p) else none) = some b := e'
              split at e2
              · rename_i f
                rw [Bool.and_eq_true] at f
                cases e2
                exact ⟨fun q => .inr (.inl ⟨p, ps, d1, d2, f.1, f.2, q⟩), fun q => .inr (.inl ⟨p, ps, d1, d2, f.1, f.2, q⟩)⟩
              · cases e2
            | tuple ps =>
              have e2 : (if SeqAt.shaped p && SeqAt.shaped (.tuple ps) then some (ps.any fun z => PyData.eqv z p) else none) = some b := e'
              split at e2
              · rename_i f
                rw [Bool.and_eq_true] at f
                cases e2
                exact ⟨fun q => .inr (.inr (.inl ⟨p, ps, d1, d2, f.1, f.2, q⟩)), fun q => .inr (.inr (.inl ⟨p, ps, d1, d2, f.1, f.2, q⟩))⟩
              · cases e2
            | _ => unfold inP at e'; cases e'
/-! ### comparisons -/
def cmpr (K : PySem.W.Frag) : CmpOp → R2
  | .Eq => rEqA K
  | .NotEq => rNeA K
  | .Is => rIs
  | .IsNot => rIsNot
  | .In => rInA K
  | .NotIn => rNotInA K
  | .Lt => rI0 fun i j => .bl (decide (i < j))
  | .LtE => rI0 fun i j => .bl (decide (i ≤ j))
  | .Gt => rI0 fun i j => .bl (decide (j < i))
  | .GtE => rI0 fun i j => .bl (decide (j ≤ i))
theorem cmpr_ok {X : Cx} (hu : X.A.units + 65 < cLine) : ∀ op, OpR X (compareOp op) (cmpr X.K op)
  | .Eq => op_eq.or (op_eqD (by omega))
  | .NotEq => op_ne.or (op_neD (by omega))
  | .Is => op_isN.or op_is_bl
  | .IsNot => op_notN.or op_isnot_bl
  | .In => op_in_seq.or ((op_inD hu).or ((op_inT hu).or (op_in_sign.or op_in_str)))
  | .NotIn => op_notIn_seq.or ((op_notInD hu).or ((op_notInT hu).or (op_notIn_sign.or op_notin_str)))
  | .Lt => op_lt
  | .LtE => op_le
  | .Gt => op_gt
  | .GtE => op_ge
theorem cmpD_ok {Q : VK} {op : CmpOp} {x y : D} {b : Bool} {v u : V} (sr : SR K cls w s σ H) (rx : Rp K w σ H x v) (ry : Rp K w σ H y u) (e : cmpD op x y s = some b) (q : Q (.bl b) H) : cmpr K op v u H Q := by
  have num : cmpN op x y = some b → (∃ i j, x = .int i ∧ y = .int j ∧ cmpI op i j = some b) := fun z => by
    unfold cmpN at z
    split at z
    · exact ⟨_, _, rfl, rfl, z⟩
    · cases z
  cases op with
  | Eq => exact (eqD_ok sr rx ry e).1 q
  | NotEq =>
    have e' : (eqD x y s).map (!·) = some b := e
    cases g : eqD x y s with
    | none => rw [g] at e'; cases e'
    | some c =>
      rw [g] at e'
      cases e'
      exact (eqD_ok sr rx ry g).2 q
  | Is =>
    have e' : isD x y s = some b := e
    exact (isD_ok sr rx ry e').1 q
  | IsNot =>
    have e' : (isD x y s).map (!·) = some b := e
    cases g : isD x y s with
    | none => rw [g] at e'; cases e'
    | some c =>
      rw [g] at e'
      cases e'
      exact (isD_ok sr rx ry g).2 q
  | In => exact (inD_ok sr rx ry e).1 q
  | NotIn =>
    have e' : (inD x y s).map (!·) = some b := e
    cases g : inD x y s with
    | none => rw [g] at e'; cases e'
    | some c =>
      rw [g] at e'
      cases e'
      exact (inD_ok sr rx ry g).2 q
  | Lt =>
    obtain ⟨i, j, rfl, rfl, z⟩ := num e
    cases z
    rw [rp_int rx, rp_int ry]
    exact ⟨i, j, rfl, rfl, q⟩
  | LtE =>
    obtain ⟨i, j, rfl, rfl, z⟩ := num e
    cases z
    rw [rp_int rx, rp_int ry]
    exact ⟨i, j, rfl, rfl, q⟩
  | Gt =>
    obtain ⟨i, j, rfl, rfl, z⟩ := num e
    cases z
    rw [rp_int rx, rp_int ry]
    exact ⟨i, j, rfl, rfl, q⟩
  | GtE =>
    obtain ⟨i, j, rfl, rfl, z⟩ := num e
    cases z
    rw [rp_int rx, rp_int ry]
    exact ⟨i, j, rfl, rfl, q⟩

/-! ### truth -/
theorem truth_ok {x : D} {b : Bool} {v : V} (sr : SR K cls w s σ H) (r : Rp K w σ H x v) (e : truth x s = some b) : TruV K v H b := by
  have go : (sview x s).map (fun xs => !xs.isEmpty) = some b → TruV K v H b := fun z => by
    cases g : sview x s with
    | none => rw [g] at z; cases z
    | some xs =>
      rw [g] at z
      cases z
      obtain ⟨a, vs, rfl, h2, h3⟩ := sview_ok sr r g
      have emp : xs.isEmpty = vs.isEmpty := by
        cases xs with
        | nil => rw [h3.nil]; rfl
        | cons x xs => obtain ⟨v, r, rfl, _⟩ := h3.cons; rfl
      rcases h2 with h2 | h2
      · exact .inl ⟨vs, SqL.of h2, by show (!xs.isEmpty) = _; rw [emp]⟩
      · exact .inr (.inl ⟨vs, h2, by show (!xs.isEmpty) = _; rw [emp]⟩)
  cases x with
  | non => cases e; rw [rp_non r]; rfl
  | bl c => cases e; rw [rp_bl r]; rfl
  | int i => cases e; rw [rp_int r]; rfl
  | str z =>
    have e' : (if z.length ≤ sizeLine then some ((z.length : Int) != 0) else none) = some b := e
    split at e'
    · cases e'
      rw [rp_str r]
      exact ⟨by assumption, rfl⟩
    · cases e'
  | _ => exact go e

/-! ### subscripts -/
theorem atI_rvs {xs : List D} {vs : List V} {i : Int} {z : D} (h : Rvs K w H xs vs) (e : atI xs i = some z) : ∃ v, atI vs i = some v ∧ Rv K w H z v := by
  unfold atI at e ⊢
  rw [h.length]
  cases g : ixN xs.length i with
  | none => rw [g] at e; cases e
  | some j =>
    rw [g] at e
    exact h.get e
theorem ixD_ok {Q : VK} {x y z : D} {v u : V} (sr : SR K cls w s σ H) (rx : Rp K w σ H x v) (ry : Rp K w σ H y u) (e : ixD x y s = some z) (q : ∀ v, Rv K w H z v → Q v H) : rIx K v u H Q := by
  unfold ixD at e
  split at e
  · rename_i i
    rw [rp_int ry]
    split at e
    · rename_i t
      split at e
      · rename_i hz
        cases g : atI t.cps.toList i with
        | none => rw [g] at e; cases e
        | some c =>
          rw [g] at e
          cases e
          rw [rp_str rx]
          refine .inr (.inr ⟨t, i, c, rfl, rfl, hz, g, q _ ?_⟩)
          unfold Rv
          rfl
      · cases e
    · rename_i ns
      cases g : atI ns i with
      | none => rw [g] at e; cases e
      | some k =>
        rw [g] at e
        cases e
        have r' : Rv K w H (.scr ns) v := rx
        unfold Rv at r'
        obtain ⟨a, rfl, h2⟩ := r'
        have g' : atI (ns.map V.int) i = some (.int k) := by
          unfold atI at g ⊢
          rw [List.length_map]
          cases g2 : ixN ns.length i with
          | none => rw [g2] at g; cases g
          | some j =>
            rw [g2] at g
            show (ns.map V.int)[j]? = _
            rw [List.getElem?_map]
            have g3 : ns[j]? = some k := g
            rw [g3]
            rfl
        refine .inl ⟨a, _, i, _, rfl, rfl, h2.sq, g', q _ ?_⟩
        unfold Rv
        rfl
    · cases g : sview x s with
      | none => rw [g] at e; cases e
      | some xs =>
        rw [g] at e
        obtain ⟨a, vs, rfl, h2, h3⟩ := sview_ok sr rx g
        obtain ⟨t, h4, h5⟩ := atI_rvs h3 e
        rcases h2 with h2 | h2
        · exact .inl ⟨a, vs, i, t, rfl, rfl, SqL.of h2, h4, q t h5⟩
        · exact .inr (.inl ⟨a, vs, i, t, rfl, rfl, h2, h4, q t h5⟩)
  · cases e
end
end MP
end
section
set_option maxRecDepth 100000
set_option maxHeartbeats 1000000
set_option autoImplicit false
/-! MPi: slices, built-in functions and methods, stores. -/
namespace MP
open PySem PySem.Spec PyProof.Rows L2
section
variable {K : PySem.W.Frag} {cls : Nat → Addr} {w : Wd} {H : Hp} {σ : L2.St} {s s1 : MSt}
/-! ### slices -/
theorem cut_rvs {xs : List D} {vs : List V} (h : Rvs K w H xs vs) (lo hi : Option Int) : Rvs K w H (cut xs lo hi) (cutV vs lo hi) := by
  unfold cut cutV
  rw [h.length]
  exact (h.drop _).take _
def rSlc (K : PySem.W.Frag) : V → Option Int → Option Int → Hp → VK → Prop := fun x lo hi H Q => rSlL K x lo hi H Q ∨ (rSlA K x lo hi H Q ∨ rSlS x lo hi H Q)
theorem slc_ok {X : Cx} : SlR X (rSlc X.K) := sl_list.or (sl_tupA.or sl_str)
theorem slcD_ok {Q : VK} {x z : D} {lo hi : Option Int} {v : V} (sr : SR K cls w s σ H) (rx : Rp K w σ H x v) (e : slcD x lo hi s = some z)
    (q : ∀ w' v H', Ext w H w' H' → SR K cls w' s σ H' → RD K w H w' σ H' z v → Q v H') : rSlc K v lo hi H Q := by
  have go : (lview x s).map (fun xs => D.nw (cut xs lo hi)) = some z → rSlc K v lo hi H Q := fun g => by
    cases g2 : lview x s with
    | none => rw [g2] at g; cases g
    | some xs =>
      rw [g2] at g
      cases g
      obtain ⟨a, vs, rfl, h2, h3⟩ := lview_ok sr rx g2
      exact .inl ⟨a, vs, rfl, SqL.of h2, new_lst sr (cut_rvs h3 lo hi) q⟩
  cases x with
  | tup xs =>
    cases e
    obtain ⟨a, vs, rfl, h2, h3⟩ := rp_tup rx
    refine .inr (.inl ⟨a, vs, rfl, h2, fun c => ?_, fun _ => new_tup sr (cut_rvs h3 lo hi) q⟩)
    have e1 : cut xs lo hi = xs := by
      unfold cut
      rw [h3.length] at c
      rw [c.1, c.2]
      simp
    refine q w _ H ExtB.refl sr ⟨?_, trivial⟩
    show Rv K w H (.tup (cut xs lo hi)) _
    rw [e1]
    unfold Rv
    exact ⟨a, vs, rfl, h2, h3⟩
  | str t =>
    have e' : (if t.length ≤ sizeLine then some (D.str (cutS t lo hi)) else none) = some z := e
    split at e'
    · cases e'
      rw [rp_str rx]
      exact .inr (.inr ⟨t, rfl, by assumption, q w _ H ExtB.refl sr rd_str⟩)
    · cases e'
  | _ => exact go e

/-! ### built-in functions -/
def biV : Bi → Value
  | .len => .builtin "len"
  | .int => .type "int"
  | .str => .type "str"
  | .sum => .builtin "sum"
  | .tuple => .type "tuple"
  | .list => .type "list"
  | .repr => .builtin "repr"
  | .min2 => .builtin "min"
  | .max2 => .builtin "max"
  | .min1 => .builtin "min"
  | .max1 => .builtin "max"
abbrev RC := List V → Hp → VK → Prop
def rLen (K : PySem.W.Frag) : RC := fun xs H Q => ∃ x n, xs = [x] ∧ LenV K x H n ∧ Q (.int n) H
def rInt : RC := fun xs H Q => (∃ i, xs = [.int i] ∧ Q (.int i) H) ∨ ∃ k, xs = [.bl k] ∧ Q (.int (if k then 1 else 0)) H
def rStrI : RC := fun xs H Q => ∃ i, xs = [.int i] ∧ i.natAbs.log2 < 1920 ∧ Q (.str (toString i)) H
def rStrS : RC := fun xs H Q => ∃ a, xs = [.str a] ∧ Q (.str a) H
def rTupleOf (K : PySem.W.Frag) : RC := fun xs H Q => ∃ p ys, xs = [.ref p] ∧ ((SqL K H p ys ∧ ∀ l, H l = none → Q (.ref l) (upd H l (.tup ys))) ∨ (SqT K H p ys ∧ Q (.ref p) H))
def rListOf (K : PySem.W.Frag) : RC := fun xs H Q => ∃ p ys, xs = [.ref p] ∧ (SqL K H p ys ∨ SqT K H p ys) ∧ ∀ l, H l = none → Q (.ref l) (upd H l (.lst ys))
def rRepr (K : PySem.W.Frag) : RC := fun xs H Q => ∃ a p, xs = [.ref a] ∧ Dp K H (.ref a) p ∧ okR p = true ∧ Q (.str p.shown) H
def rMin2 : RC := fun xs H Q => ∃ i j, xs = [.int i, .int j] ∧ Q (.int (if j < i then j else i)) H
def rMax2 : RC := fun xs H Q => ∃ i j, xs = [.int i, .int j] ∧ Q (.int (if j > i then j else i)) H
theorem call_repr {X : Cx} (hg : X.A.guards = some []) (hu : X.A.units + 70 < cLine) : CallR X (.builtin "repr") (rRepr X.K) := by
  intro pins s σ H xs us Q I r h
  obtain ⟨a, p, rfl, hd, hk, q⟩ := h
  have hk' : (p.layable0 = true ∧ p.intsShort 13 = true) ∧ p.showable = true := by
    have z : (p.layable0 && p.intsShort 13 && p.showable) = true := hk
    simpa [Bool.and_eq_true] using z
  obtain ⟨u, rfl, ru⟩ := vals1 r
  cases ru
  obtain ⟨as, rd⟩ := Dp.reads I p (.ref a) (.ref a) hd rfl
  have hl : (PyData.canLay0 p && decide (PyData.depth p ≤ 64) && decide (PyData.weight p ≤ 2 ^ 20)) = true := hk'.1.1
  simp only [Bool.and_eq_true, decide_eq_true_eq] at hl
  have hz := shown_le13 hk'.1.1 hk'.1.2
  refine repr_of_reads' (prog := X.prog) (w := X.w) rd hk'.2 (PyData.noDict_hsm (PyData.hasDict_of_layable hk'.1.1)) hg (by have := hl.1.2; omega) (fun _ _ e => e) (fun h' u tk hk => ?_) (by
    rw [sizeLine_eq]
    omega)
  exact ⟨.str p.shown, H, I.kept hk, ⟨_, rfl⟩, q⟩
theorem CallR.or {X : Cx} {f : Value} {r r' : RC} (h : CallR X f r) (h' : CallR X f r') : CallR X f (fun xs H Q => r xs H Q ∨ r' xs H Q) := by
  intro pins s σ H xs us Q I rx q
  rcases q with q | q
  · exact h pins s σ H xs us Q I rx q
  · exact h' pins s σ H xs us Q I rx q
theorem CallR.no {X : Cx} {f : Value} : CallR X f (fun _ _ _ => False) := fun _ _ _ _ _ _ _ _ _ q => q.elim
def bir (K : PySem.W.Frag) : Bi → RC
  | .len => rLen K
  | .int => rInt
  | .str => fun xs H Q => rStrI xs H Q ∨ rStrS xs H Q
  | .sum => rSum K
  | .tuple => rTupleOf K
  | .list => rListOf K
  | .repr => rRepr K
  | .min2 => rMin2
  | .max2 => rMax2
  | .min1 => fun _ _ _ => False
  | .max1 => fun _ _ _ => False
theorem bir_ok {X : Cx} (hc : X.calm = true) (hg : X.A.guards = some []) (hu : X.A.units + 70 < cLine) : ∀ b, CallR X (biV b) (bir X.K b)
  | .len => call_len
  | .int => call_int1
  | .str => call_str_int.or SkE.call_str_str
  | .sum => cr_sum hc
  | .tuple => call_tuple_of
  | .list => call_list_of
  | .repr => call_repr hg hu
  | .min2 => call_min2 hc
  | .max2 => call_max2 hc
  | .min1 => CallR.no
  | .max1 => CallR.no
theorem dints_ok : ∀ {xs : List D} {vs : List V} {ns : List Int}, Rvs K w H xs vs → dints xs = some ns → vs = ns.map V.int
  | [], _, _, h, e => by
    cases e
    rw [h.nil]
    rfl
  | x :: xs, _, ns, h, e => by
    obtain ⟨v, r, rfl, h2, h3⟩ := h.cons
    cases x with
    | int i =>
      have e' : (dints xs).map (i :: ·) = some ns := e
      cases g : dints xs with
      | none => rw [g] at e'; cases e'
      | some ms =>
        rw [g] at e'
        cases e'
        unfold Rv at h2
        rw [h2, dints_ok h3 g]
        rfl
    | _ => cases e
theorem rps_one {x : D} {vs : List V} (h : Rps K w σ H [x] vs) : ∃ v, vs = [v] ∧ Rp K w σ H x v := by
  obtain ⟨v, r, rfl, h1, h2⟩ := h
  have h2' : r = [] := h2
  subst h2'
  exact ⟨v, rfl, h1⟩
theorem rps_two {x y : D} {vs : List V} (h : Rps K w σ H [x, y] vs) : ∃ v u, vs = [v, u] ∧ Rp K w σ H x v ∧ Rp K w σ H y u := by
  obtain ⟨v, r, rfl, h1, h2⟩ := h
  obtain ⟨u, rfl, h3⟩ := rps_one h2
  exact ⟨v, u, rfl, h1, h3⟩
theorem biD_ok {Q : VK} {b : Bi} {ds : List D} {z : D} {vs : List V} (sr : SR K cls w s σ H) (rx : Rps K w σ H ds vs) (e : biD b ds s = some z)
    (q : ∀ w' v H', Ext w H w' H' → SR K cls w' s σ H' → RD K w H w' σ H' z v → Q v H') : bir K b vs H Q := by
  have now : ∀ v, RD K w H w σ H z v → Q v H := fun v r => q w v H ExtB.refl sr r
  unfold biD at e
  split at e
  · -- len of a text
    obtain ⟨v, rfl, r⟩ := rps_one rx
    split at e
    · cases e
      rw [rp_str r]
      exact ⟨_, _, rfl, ⟨by assumption, rfl⟩, now _ rd_int⟩
    · cases e
  · obtain ⟨v, rfl, r⟩ := rps_one rx
    cases e
    have r' : Rv K w H (.scr _) v := r
    unfold Rv at r'
    obtain ⟨a, rfl, h2⟩ := r'
    exact ⟨_, _, rfl, .inl ⟨_, h2.sq, (List.length_map _).symm⟩, now _ rd_int⟩
  · rename_i x _ _
    obtain ⟨v, rfl, r⟩ := rps_one rx
    cases g : sview x s with
    | none => rw [g] at e; cases e
    | some xs =>
      rw [g] at e
      cases e
      obtain ⟨a, us, rfl, h2, h3⟩ := sview_ok sr r g
      refine ⟨_, us.length, rfl, ?_, by rw [h3.length]; exact now _ rd_int⟩
      rcases h2 with h2 | h2
      · exact .inl ⟨us, SqL.of h2, rfl⟩
      · exact .inr ⟨us, h2, rfl⟩
  · obtain ⟨v, rfl, r⟩ := rps_one rx
    cases e
    rw [rp_int r]
    exact .inl ⟨_, rfl, now _ rd_int⟩
  · obtain ⟨v, rfl, r⟩ := rps_one rx
    cases e
    rw [rp_bl r]
    exact .inr ⟨_, rfl, now _ rd_int⟩
  · obtain ⟨v, rfl, r⟩ := rps_one rx
    split at e
    · cases e
      rw [rp_int r]
      exact .inl ⟨_, rfl, by assumption, now _ rd_str⟩
    · cases e
  · obtain ⟨v, rfl, r⟩ := rps_one rx
    cases e
    rw [rp_str r]
    exact .inr ⟨_, rfl, now _ rd_str⟩
  · rename_i x
    obtain ⟨v, rfl, r⟩ := rps_one rx
    cases g : lview x s with
    | none => rw [g] at e; cases e
    | some xs =>
      rw [g] at e
      have e' : (dints xs).map (fun ns => D.int ns.sum) = some z := e
      cases g2 : dints xs with
      | none => rw [g2] at e'; cases e'
      | some ns =>
        rw [g2] at e'
        cases e'
        obtain ⟨a, us, rfl, h2, h3⟩ := lview_ok sr r g
        have z := dints_ok h3 g2
        subst z
        exact ⟨a, ns, rfl, SqL.of h2, now _ rd_int⟩
  · obtain ⟨v, rfl, r⟩ := rps_one rx
    cases e
    obtain ⟨a, us, rfl, h2, h3⟩ := rp_tup r
    refine ⟨a, us, rfl, .inr ⟨h2, now _ ⟨r, trivial⟩⟩⟩
  · rename_i x _
    obtain ⟨v, rfl, r⟩ := rps_one rx
    cases g : lview x s with
    | none => rw [g] at e; cases e
    | some xs =>
      rw [g] at e
      cases e
      obtain ⟨a, us, rfl, h2, h3⟩ := lview_ok sr r g
      exact ⟨a, us, rfl, .inl ⟨SqL.of h2, new_tup sr h3 q⟩⟩
  · rename_i x
    obtain ⟨v, rfl, r⟩ := rps_one rx
    cases g : sview x s with
    | none => rw [g] at e; cases e
    | some xs =>
      rw [g] at e
      cases e
      obtain ⟨a, us, rfl, h2, h3⟩ := sview_ok sr r g
      refine ⟨a, us, rfl, ?_, new_lst sr h3 q⟩
      rcases h2 with h2 | h2
      · exact .inl (SqL.of h2)
      · exact .inr h2
  · obtain ⟨v, u, rfl, r1, r2⟩ := rps_two rx
    cases e
    rw [rp_int r1, rp_int r2]
    exact ⟨_, _, rfl, now _ rd_int⟩
  · obtain ⟨v, u, rfl, r1, r2⟩ := rps_two rx
    cases e
    rw [rp_int r1, rp_int r2]
    exact ⟨_, _, rfl, now _ rd_int⟩
  · rename_i x
    obtain ⟨v, rfl, r⟩ := rps_one rx
    cases g : sview x s with
    | none => rw [g] at e; cases e
    | some xs =>
      rw [g] at e
      have e' : ((pview x s).bind fun p => if okR p then some (D.str p.shown) else none) = some z := e
      cases g2 : pview x s with
      | none => rw [g2] at e'; cases e'
      | some p =>
        rw [g2] at e'
        have e2 : (if okR p then some (D.str p.shown) else none) = some z := e'
        split at e2
        · cases e2
          obtain ⟨a, us, rfl, h2, h3⟩ := sview_ok sr r g
          exact ⟨a, p, rfl, pview_ok sr r g2, by assumption, now _ rd_str⟩
        · cases e2
  · cases e
end
end MP
end
section
set_option maxRecDepth 100000
set_option maxHeartbeats 1000000
set_option autoImplicit false
/-! MPj: methods of lists, stores. -/
namespace MP
open PySem PySem.Spec PyProof.Rows L2
section
variable {K : PySem.W.Frag} {cls : Nat → Addr} {tm : Bool} {w w0 w1 : Wd} {H H0 H1 : Hp} {σ : L2.St} {s s1 : MSt}
/-! ### methods of lists -/
def bmI : Bm → String
  | .append => "list.append"
  | .pop => "list.pop"
  | .popAt => "list.pop"
def bmr (K : PySem.W.Frag) : Bm → V → List V → Hp → VK → Prop
  | .append => rAppend
  | .pop => rPop
  | .popAt => rPopAt
theorem bmr_ok {X : Cx} : ∀ m, MtR X (bmI m) (bmr X.K m)
  | .append => mt_append
  | .pop => mt_pop
  | .popAt => mt_popAt
theorem ixN_rvs {xs : List D} {vs : List V} (h : Rvs K w H xs vs) (i : Int) : ixN vs.length i = ixN xs.length i := by rw [h.length]
theorem rd_of {d : D} {v : V} (h : Rv K w H d v) : RD K w0 H0 w σ H d v := by
  refine ⟨h.rp, ?_⟩
  cases d with
  | nw xs => unfold Rv at h; exact h.elim
  | _ => trivial
theorem bmD_ok {Q : VK} {m : Bm} {x z : D} {ds : List D} {v : V} {vs : List V} (sr : SR K cls w s σ H) (rx : Rp K w σ H x v) (rs : Rvs K w H ds vs) (e : bmD m x ds s = some (z, s1))
    (q : ∀ w' v H', Ext w H w' H' → SR K cls w' s1 σ H' → RD K w H w' σ H' z v → Q v H') : bmr K m v vs H Q := by
  unfold bmD at e
  split at e
  · obtain ⟨u, r, rfl, h1, h2⟩ := rs.cons
    have h2' := h2.nil
    subst h2'
    cases g : oview x s with
    | none => rw [g] at e; cases e
    | some xs =>
      rw [g] at e
      rename_i d
      have e' : (if xs.length < sizeLine then some (D.non, oput x (xs ++ [d]) s) else none) = some (z, s1) := e
      split at e'
      · cases e'
        obtain ⟨a, us, rfl, k1, k2, k3⟩ := oput_ok sr rx g
        obtain ⟨k4, k5⟩ := k3 (xs ++ [d]) (us ++ [u]) (k2.append (.mk h1 .mk0))
        exact ⟨a, us, u, rfl, rfl, k1, by rw [k2.length]; assumption, q w _ _ k5 k4 rd_non⟩
      · cases e'
  · have z' := rs.nil
    subst z'
    cases g : oview x s with
    | none => rw [g] at e; cases e
    | some xs =>
      rw [g] at e
      cases g2 : xs[xs.length - 1]? with
      | none =>
        have e' : (xs[xs.length - 1]?).map (fun y => (y, oput x xs.dropLast s)) = some (z, s1) := e
        rw [g2] at e'
        cases e'
      | some y =>
        have e' : (xs[xs.length - 1]?).map (fun y => (y, oput x xs.dropLast s)) = some (z, s1) := e
        rw [g2] at e'
        cases e'
        obtain ⟨a, us, rfl, k1, k2, k3⟩ := oput_ok sr rx g
        have dl : Rvs K w H xs.dropLast us.dropLast := by
          rw [List.dropLast_eq_take, List.dropLast_eq_take, k2.length]
          exact k2.take _
        obtain ⟨k4, k5⟩ := k3 xs.dropLast us.dropLast dl
        obtain ⟨u, k6, k7⟩ := k2.get g2
        exact ⟨a, us, u, rfl, rfl, k1, by rw [k2.length]; exact k6, q w _ _ k5 k4 (rd_of (k7.ext k5))⟩
  · obtain ⟨u, r, rfl, h1, h2⟩ := rs.cons
    have h2' := h2.nil
    subst h2'
    unfold Rv at h1
    subst h1
    rename_i i
    split at e
    rotate_left
    · cases e
    rename_i big
    cases g : oview x s with
    | none => rw [g] at e; cases e
    | some xs =>
      rw [g] at e
      have e' : ((ixN xs.length i).bind fun k => (xs[k]?).map fun y => (y, oput x (xs.eraseIdx k) s)) = some (z, s1) := e
      cases g1 : ixN xs.length i with
      | none => rw [g1] at e'; cases e'
      | some k =>
        rw [g1] at e'
        have e2 : (xs[k]?).map (fun y => (y, oput x (xs.eraseIdx k) s)) = some (z, s1) := e'
        cases g2 : xs[k]? with
        | none => rw [g2] at e2; cases e2
        | some y =>
          rw [g2] at e2
          cases e2
          obtain ⟨a, us, rfl, k1, k2, k3⟩ := oput_ok sr rx g
          obtain ⟨k4, k5⟩ := k3 (xs.eraseIdx k) (us.eraseIdx k) (k2.eraseIdx k)
          obtain ⟨u, k6, k7⟩ := k2.get g2
          obtain ⟨n1, n2, n3, n4⟩ := ixN_seq g1
          exact ⟨a, us, i, k, u, rfl, rfl, k1, big.1, big.2, by rw [k2.length]; exact n1, k6, q w _ _ k5 k4 (rd_of (k7.ext k5))⟩
  · cases e
/-! ### stores -/
theorem SR.assign {i : Nat} {d : D} {v : V} (h : SR K cls w s σ H) (r : Rv K w H d v) : SR K cls w (s.setS i (some (.val d))) (σ.set i (some v)) H := by
  refine ⟨h.hr, ?_, fun j sv q => ?_⟩
  · show (s.sl.set i _).length = _
    rw [List.length_set, List.length_set]
    exact h.sl
  · have hl : j < σ.length := by
      have q' : (s.sl.set i (some (SV.val d)))[j]? = some (some sv) := q
      have := (List.getElem?_eq_some_iff.mp q').1
      rw [List.length_set, h.sl] at this
      exact this
    rcases setS_get q with ⟨rfl, e⟩ | ⟨e, q⟩
    · cases e
      exact ⟨v, List.getElem?_set_self hl, r⟩
    · obtain ⟨u, h1, h2⟩ := h.slots j sv q
      exact ⟨u, by rw [List.getElem?_set_ne fun z => e z.symm]; exact h1, h2⟩
/-- name = d -/
theorem storeS_ok {i : Nat} {d : D} {v : V} (h : SR K cls w s σ H) (r : Rp K w σ H d v) (e : storeS i d s = some s1) :
    ∃ w', SR K cls w' s1 (σ.set i (some v)) H ∧ ∀ tm w0 H0, ExtB tm w0 H0 w H → New w0 d v → ExtB tm w0 H0 w' H := by
  have go : (frz d s).map (fun p => p.2.setS i (some (.val p.1))) = some s1 → ∃ w', SR K cls w' s1 (σ.set i (some v)) H ∧ ∀ tm w0 H0, ExtB tm w0 H0 w H → New w0 d v → ExtB tm w0 H0 w' H := fun z => by
    cases g : frz d s with
    | none => rw [g] at z; cases z
    | some p =>
      rw [g] at z
      cases z
      obtain ⟨d', s2⟩ := p
      obtain ⟨w', k1, k2, k3⟩ := frz_ok h r g
      exact ⟨w', k1.assign k2, k3⟩
  cases d with
  | nw xs =>
    cases e
    obtain ⟨a, vs, rfl, r2, r3, r4⟩ := r
    have c : Chg w H (w.put a (.slot i)) H a .tmp := chg_put r2 r3 (fun z => nomatch z)
    have nt : ∀ n f, ((w.put a (.slot i)).own a = some (.fld n f) ∨ (w.put a (.slot i)).own a = some (.lkf n f)) → False := fun n f z => by
      rw [put_same] at z
      rcases z with z | z <;> cases z
    refine ⟨w.put a (.slot i), ⟨c.hr h.hr (fun _ z => nomatch z) (fun _ _ z => nomatch z) (fun _ _ z => nomatch z) nt, ?_, fun j sv q => ?_⟩, fun tm w0 H0 x n => ?_⟩
    · show (s.sl.set i _).length = _
      rw [List.length_set, List.length_set]
      exact h.sl
    · have hl : j < σ.length := by
        have q' : (s.sl.set i (some (SV.own xs)))[j]? = some (some sv) := q
        have := (List.getElem?_eq_some_iff.mp q').1
        rw [List.length_set, h.sl] at this
        exact this
      rcases setS_get q with ⟨rfl, e⟩ | ⟨e, q⟩
      · cases e
        exact ⟨.ref a, List.getElem?_set_self hl, a, vs, rfl, put_same, r3, r4.pre c.pre⟩
      · obtain ⟨u, h1, h2⟩ := h.slots j sv q
        exact ⟨u, by rw [List.getElem?_set_ne fun z => e z.symm]; exact h1, c.sv (fun z => nomatch z) (fun z => nomatch z) h2⟩
    · obtain ⟨a', ea, n⟩ := n
      cases ea
      exact c.extN x n (fun n f z => (nt n f z).elim) fun _ => trivial
  | _ => exact go e
theorem kill_sr {is : List Nat} (h : SR K cls w s σ H) : SR K cls w (kill is s) σ H := by
  induction is with
  | nil => exact h
  | cons i is ih =>
    refine ⟨ih.hr, ?_, fun j sv q => ?_⟩
    · show ((kill is s).sl.set i _).length = _
      rw [List.length_set]
      exact ih.sl
    · rcases setS_get q with ⟨rfl, e⟩ | ⟨e, q⟩
      · cases e
      · exact ih.slots j sv q
/-- x[i] = d -/
theorem setIx_ok {Q : Hp → Prop} {x y d : D} {v u t : V} (sr : SR K cls w s σ H) (rx : Rp K w σ H x v) (ry : Rp K w σ H y u) (rd : Rv K w H d t) (e : setIx x y d s = some s1)
    (q : ∀ H', Ext w H w H' → SR K cls w s1 σ H' → Q H') : rSetL v u t H Q := by
  unfold setIx at e
  split at e
  · rename_i k
    rw [rp_int ry]
    cases g : oview x s with
    | none => rw [g] at e; cases e
    | some xs =>
      rw [g] at e
      have e' : (ixN xs.length k).map (fun j => oput x (xs.set j d) s) = some s1 := e
      cases g1 : ixN xs.length k with
      | none => rw [g1] at e'; cases e'
      | some j =>
        rw [g1] at e'
        cases e'
        obtain ⟨a, us, rfl, k1, k2, k3⟩ := oput_ok sr rx g
        obtain ⟨k4, k5⟩ := k3 (xs.set j d) (us.set j t) (k2.set rd j)
        exact ⟨a, us, k, j, rfl, rfl, k1, by rw [k2.length]; exact g1, q _ k5 k4⟩
  · cases e
end
end MP
end
section
set_option maxRecDepth 100000
set_option maxHeartbeats 1000000
set_option autoImplicit false
/-! MPk: the text of a def against mini-Python's; what is known of the module; calls. -/
namespace MP
open PySem PySem.Spec PyProof.Rows L2

theorem PE.weak {X : Cx} {e : Expr} {t t' : TE} (h : PE X e t) (i : ∀ σ H Q, t' σ H Q → t σ H Q) : PE X e t' := ⟨fun pins s σ H Q I q => h.run pins s σ H Q I (i σ H Q q)⟩
theorem PT.weak {X : Cx} {e : Expr} {t t' : TT} (h : PT X e t) (i : ∀ σ H Q, t' σ H Q → t σ H Q) : PT X e t' := ⟨fun pins s σ H Q I q => h.run pins s σ H Q I (i σ H Q q)⟩
theorem PW.weak {X : Cx} {e : Expr} {t t' : TT} (h : PW X e t) (i : ∀ σ H Q, t' σ H Q → t σ H Q) : PW X e t' := ⟨fun wh pins s σ H Q I q => h.run wh pins s σ H Q I (i σ H Q q)⟩
theorem PA.weak {X : Cx} {es : List Expr} {t t' : TA} (h : PA X es t) (i : ∀ σ H Q, t' σ H Q → t σ H Q) : PA X es t' := ⟨fun pos pins s σ H Q I q => h.run pos pins s σ H Q I (i σ H Q q)⟩
theorem PO.weak {X : Cx} {e : Option Expr} {t t' : TO} (h : PO X e t) (i : ∀ σ H Q, t' σ H Q → t σ H Q) : PO X e t' := ⟨fun pins s σ H Q I q => h.run pins s σ H Q I (i σ H Q q)⟩

/-! ### what is told of the module -/
structure Sg where
  consts : List (Str × D)
  fns : List (Nat × Str)
  blts : List Str
/-- where one stands: the names by slot, the scope, which names may be stored -/
structure Ct where
  N : List Str
  sc : Scope
  fc : Str → Bool
def scalV : D → Option V
  | .non => some .non
  | .bl b => some (.bl b)
  | .int i => some (.int i)
  | .str z => some (.str z)
  | _ => none
def eqSc : D → D → Bool
  | .non, .non => true
  | .bl a, .bl b => a == b
  | .int a, .int b => a == b
  | .str a, .str b => a == b
  | _, _ => false
theorem eqSc_eq {a b : D} (h : eqSc a b = true) : a = b := by
  cases a <;> cases b <;> simp_all [eqSc]
def visB (c : Ct) (x : Str) : Bool :=
  match c.sc.names.lookup x with
  | some .local => true
  | some .cell => true
  | some .free => true
  | _ => false
def glB (c : Ct) (x : Str) : Bool := c.sc.names.lookup x == some .globalImplicit
def plainB (x : Str) : Bool := !(x == ("__debug__" : Str)) && !(x == ("__classdict__" : Str)) && !(x == ("__name__" : Str))
def storB (c : Ct) (x : Str) : Bool :=
  match c.sc.names.lookup x with
  | some .local => true
  | some .cell => c.fc x
  | _ => false
def biN : Bi → Str
  | .len => "len"
  | .int => "int"
  | .str => "str"
  | .sum => "sum"
  | .tuple => "tuple"
  | .list => "list"
  | .repr => "repr"
  | .min2 => "min"
  | .max2 => "max"
  | .min1 => "min"
  | .max1 => "max"
def bmN : Bm → Str
  | .append => "append"
  | .pop => "pop"
  | .popAt => "pop"
def noStar : Expr → Bool
  | .Starred _ _ => false
  | _ => true
def noSlc : Expr → Bool
  | .Slice _ _ _ _ => false
  | _ => true
def noSet : Expr → Bool
  | .Set _ _ _ => false
  | _ => true
def noCall : Expr → Bool
  | .Call _ _ _ _ => false
  | _ => true
def noComp : Expr → Bool
  | .ListComp _ _ _ _ => false
  | .SetComp _ _ _ _ => false
  | .DictComp _ _ _ _ _ => false
  | _ => true
def noTup : Expr → Bool
  | .Tuple _ _ _ => false
  | _ => true
def noLst : Expr → Bool
  | .List _ _ => false
  | _ => true
def noTest : Expr → Bool
  | .UnaryOp .Not _ _ => false
  | .BoolOp _ _ _ => false
  | .IfExp _ _ _ _ => false
  | _ => true
mutual
/-- the slots that a target stores -/
def T.slots : T → List Nat
  | .name i => [i]
  | .tup ts => Ts.slots ts
  | .ix _ _ => []
  | .attr _ _ _ => []
def Ts.slots : Ts → List Nat
  | .nil => []
  | .cons t ts => t.slots ++ Ts.slots ts
end
def ownOf (N : List Str) (vs : List Nat) : List (Str × Nat) := vs.filterMap fun i => (N[i]?).map fun x => (x, i)
/-- the context within a comprehension's block -/
def Ct.blk (c : Ct) (scope : Scope) : Ct := ⟨c.N, relS scope c.sc, fun x => scope.names.lookup x == some .cell⟩
mutual
def chkE (g : Sg) : E → Ct → Expr → Bool
  | .non, _, pe => match pe with
    | .Constant .none _ _ => true
    | _ => false
  | .bl b, _, pe => match pe with
    | .Constant (.bool b') _ _ => b == b'
    | _ => false
  | .int i, _, pe => match pe with
    | .Constant (.int j) _ _ => i == j
    | _ => false
  | .str z, _, pe => match pe with
    | .Constant (.str z') _ _ => decide (z = z')
    | _ => false
  | .var i, c, pe => match pe with
    | .Name x _ => decide (c.N[i]? = some x) && visB c x && plainB x
    | _ => false
  | .glob x d, c, pe => match pe with
    | .Name y _ => decide (x = y) && glB c x && plainB x && (match g.consts.lookup x with | some d' => eqSc d d' | none => false)
    | _ => false
  | .bin op a b, c, pe => match pe with
    | .BinOp pa op' pb _ => decide (op = op') && chkE g a c pa && chkE g b c pb
    | _ => false
  | .neg a, c, pe => match pe with
    | .UnaryOp .USub pa _ => chkE g a c pa
    | _ => false
  | .not t, c, pe => match t with
    | .of a => match pe with
      | .UnaryOp .Not pa _ => chkE g a c pa
      | _ => false
    | _ => false
  | .cmp op a b, c, pe => match pe with
    | .Compare pa [op'] [pb] _ => decide (op = op') && chkE g a c pa && chkE g b c pb && !behindInMarks op pb
    | _ => false
  | .chain o1 o2 a b d, c, pe => match pe with
    | .Compare pa [o1', o2'] [pb, pd] _ => decide (o1 = o1') && decide (o2 = o2') && chkE g a c pa && chkE g b c pb && chkE g d c pd && !lastMarks [o1, o2] [pb, pd]
    | _ => false
  | .bool isAnd es last, c, pe => match pe with
    | .BoolOp .And vals _ => isAnd && chkL g es (fun pl => chkE g last c pl) c vals
    | .BoolOp .Or vals _ => !isAnd && chkL g es (fun pl => chkE g last c pl) c vals
    | _ => false
  | .ite t a b, c, pe => match pe with
    | .IfExp pt pa pb _ => chkC g t c pt && chkE g a c pa && chkE g b c pb
    | _ => false
  | .ix a i, c, pe => match pe with
    | .Subscript pa pi _ => chkE g a c pa && chkE g i c pi && noSlc pi
    | _ => false
  | .slc a lo hi, c, pe => match pe with
    | .Subscript pa (.Slice plo phi none _) _ => chkE g a c pa && chkP g lo c plo && chkP g hi c phi
    | _ => false
  | .tup es, c, pe => match pe with
    | .Tuple pes _ _ => chkEs g es c pes
    | _ => false
  | .lst es, c, pe => match pe with
    | .List pes _ => chkEs g es c pes
    | _ => false
  | .box es, c, pe => match pe with
    | .List pes _ => chkEs g es c pes
    | _ => false
  | .call f es, c, pe => match pe with
    | .Call (.Name x _) pes [] _ => decide (g.fns.lookup f = some x) && glB c x && plainB x && chkEs g es c pes
    | _ => false
  | .bi b es, c, pe => match pe with
    | .Call (.Name x _) pes [] _ => decide (x = biN b) && g.blts.contains x && glB c x && chkEs g es c pes && !pes.isEmpty
    | _ => false
  | .bm m a es, c, pe => match pe with
    | .Call (.Attribute pa name apos) pes [] cpos => decide (name = bmN m) && (apos.endLine == cpos.line) && noCall pa && chkE g a c pa && chkEs g es c pes && decide (pes.length < 30)
    | _ => false
  | .attr _ _ _, _, _ => false
  | .meth _ _ _ _, _, _ => false
  | .mk _ _ _, _, _ => false
  | .lc elt t it ifs vs, c, pe => match pe with
    | .ListComp pelt [⟨pt, pit, pifs, 0⟩] scope _ => chkI g it c pit pt && noSet pit && decide (pifs.length ≤ 1) && blkC c.N c.sc scope (ownOf c.N vs) && decide ((ownOf c.N vs).map (·.2) = vs) && t.slots.all (fun i => vs.contains i) && chkT g t (c.blk scope) pt && chkCs g ifs (c.blk scope) pifs && chkE g elt (c.blk scope) pelt
    | _ => false
def chkL (g : Sg) : Es → (Expr → Bool) → Ct → List Expr → Bool
  | .nil, k, _, ps => match ps with
    | [p] => k p
    | _ => false
  | .cons e es, k, c, ps => match ps with
    | p :: q :: ps => chkE g e c p && chkL g es k c (q :: ps)
    | _ => false
def chkEs (g : Sg) : Es → Ct → List Expr → Bool
  | .nil, _, ps => match ps with
    | [] => true
    | _ => false
  | .cons e es, c, ps => match ps with
    | p :: ps => chkE g e c p && chkEs g es c ps && noStar p
    | _ => false
def chkC (g : Sg) : C → Ct → Expr → Bool
  | .of e, c, pe => chkE g e c pe && noTest pe
  | .not d, c, pe => match pe with
    | .UnaryOp .Not pa _ => chkC g d c pa
    | _ => false
  | .bool isAnd cs, c, pe => match pe with
    | .BoolOp .And vals _ => isAnd && chkCs g cs c vals && !vals.isEmpty
    | .BoolOp .Or vals _ => !isAnd && chkCs g cs c vals && !vals.isEmpty
    | _ => false
def chkCs (g : Sg) : Cs → Ct → List Expr → Bool
  | .nil, _, ps => match ps with
    | [] => true
    | _ => false
  | .cons e es, c, ps => match ps with
    | p :: ps => chkC g e c p && chkCs g es c ps
    | _ => false
def chkP (g : Sg) : P → Ct → Option Expr → Bool
  | .absent, _, p => match p with
    | none => true
    | _ => false
  | .of e, c, p => match p with
    | some p => chkE g e c p
    | _ => false
def chkI (g : Sg) : I → Ct → Expr → Expr → Bool
  | .of e, c, p, _ => chkE g e c p
  | .enum e, c, p, tg => match p with
    | .Call (.Name x _) [pe] [] _ => decide (x = ("enumerate" : Str)) && g.blts.contains x && glB c x && chkE g e c pe && noStar pe && (match tg with | .Tuple _ _ _ => true | _ => false)
    | _ => false
  | .zip _ _, _, _, _ => false
  | .rng a, c, p, _ => match p with
    | .Call (.Name x _) [pa] [] _ => decide (x = ("range" : Str)) && g.blts.contains x && glB c x && chkE g a c pa && noStar pa
    | _ => false
  | .rng2 a b, c, p, _ => match p with
    | .Call (.Name x _) [pa, pb] [] _ => decide (x = ("range" : Str)) && g.blts.contains x && glB c x && chkE g a c pa && chkE g b c pb && noStar pa && noStar pb
    | _ => false
def chkT (g : Sg) : T → Ct → Expr → Bool
  | .name i, c, p => match p with
    | .Name x _ => decide (c.N[i]? = some x) && storB c x
    | _ => false
  | .tup ts, c, p => match p with
    | .Tuple ps _ _ => chkTs g ts c ps && decide (ps.length = ts.len)
    | _ => false
  | .ix a i, c, p => match p with
    | .Subscript pa pi _ => chkE g a c pa && chkE g i c pi && noSlc pi
    | _ => false
  | .attr _ _ _, _, _ => false
def chkTs (g : Sg) : Ts → Ct → List Expr → Bool
  | .nil, _, ps => match ps with
    | [] => true
    | _ => false
  | .cons t ts, c, ps => match ps with
    | p :: ps => chkT g t c p && chkTs g ts c ps && noStar p
    | _ => false
end
mutual
def chkS (g : Sg) : S → Ct → Stmt → Bool
  | .expr e, c, st => match st with
    | .Expr pe _ => chkE g e c pe && noComp pe
    | _ => false
  | .asg t e, c, st => match st with
    | .Assign [pt] pe _ => chkE g e c pe && chkT g t c pt && noStar pt && noLst pt && (match pe, pt with
      | .ListComp _ _ scope pos, .Name y py => !(scope.names.any fun (n, k) => n == y && (k == .local || k == .cell)) && (py.line == pos.line) && decide (c.sc.names.lookup y = some .local)
      | _, _ => noComp pe && (noTup pe || noTup pt))
    | _ => false
  | .aug i op e, c, st => match st with
    | .AugAssign (.Name x _) op' pe _ => decide (c.N[i]? = some x) && storB c x && visB c x && plainB x && decide (op = op') && chkE g e c pe && (decide (op = .Add) || decide (op = .Sub))
    | _ => false
  | .ite t a b, c, st => match st with
    | .If pt pa pb _ => chkC g t c pt && chkSs g a c pa && chkSs g b c pb
    | _ => false
  | .forr t it body, c, st => match st with
    | .For pt pit pb [] _ => chkT g t c pt && noSet pit && chkI g it c pit pt && chkSs g body c pb
    | _ => false
  | .whl t body, c, st => match st with
    | .While pt pb [] _ => chkC g t c pt && chkSs g body c pb
    | _ => false
  | .ret e, c, st => match st with
    | .Return (some pe) _ => chkE g e c pe
    | _ => false
  | .retN, _, st => match st with
    | .Return none _ => true
    | _ => false
  | .brk, _, st => match st with
    | .Break _ => true
    | _ => false
  | .cnt, _, st => match st with
    | .Continue _ => true
    | _ => false
  | .pass, _, st => match st with
    | .Pass _ => true
    | _ => false
  | .never, _, _ => true
  | .kill _, _, _ => false
def chkSs (g : Sg) : Ss → Ct → List Stmt → Bool
  | .nil, _, ps => match ps with
    | [] => true
    | _ => false
  | .cons s ss, c, ps => match s with
    | .kill _ => chkSs g ss c ps
    | s => match ps with
      | p :: ps => chkS g s c p && chkSs g ss c ps
      | _ => false
end
end MP
end
section
set_option maxRecDepth 100000
set_option maxHeartbeats 1000000
set_option autoImplicit false
/-! MPl: calls of defs. -/
namespace MP
open PySem PySem.Spec PyProof.Rows L2

section
variable (K : PySem.W.Frag) (cls : Nat → Addr)
abbrev XFl (w : Wd) (H : Hp) : List (Str × D) → List (Str × V) → Prop := Paired fun (p : Str × D) (q : Str × V) => p.1 = q.1 ∧ Rv K w H p.2 q.2
/-- an exception's class and own dict tell c and fs -/
def ExAt (w : Wd) (H : Hp) (c : Nat) (fs : List (Str × D)) (ce : Value) (d : Option Addr) : Prop :=
  ce = .ref (cls c) ∧ ((fs = [] ∧ d = none) ∨ ∃ dd fvs, d = some dd ∧ H dd = some (.xd fvs) ∧ XFl K w H fs fvs)
/-- no slot's list -/
def NoSl (w : Wd) : Prop := ∀ a o, w.own a = some o → o.old = true
def PostC (r : CRes) (w : Wd) (H : Hp) (Q : VK) (E : XK) : Prop :=
  match r with
  | .ok d hp => ∀ w' v H', ExtS w H w' H' → HR K cls w' hp H' → Rp K w' [] H' d v → New w d v → Q v H'
  | .ex c fs hp => ∀ w' H' ce d, ExtS w H w' H' → HR K cls w' hp H' → ExAt K cls w' H' c fs ce d → E ce d H'
  | .stuck => False
variable (F : Nat → List D → List HOb → CRes)
/-- a def's promise: what mini-Python's f gives -/
def spF (f n : Nat) : Sp := fun vs H Q E => ∃ w ds hp, ds.length = n ∧ HR K cls w hp H ∧ NoSl w ∧ Rvs K w H ds vs ∧ PostC K cls (F f ds hp) w H Q E
end
structure FnG (P : Program) (w : World) (K : PySem.W.Frag) (mg : Str → Option Value) (base : Heap) (k : Nat) (f : Addr) (fd : FuncData) (ps : List Str) (sp : Sp) : Prop where
  len : ∀ vs H Q E, sp vs H Q E → vs.length = ps.length
  run : ∀ (A : Around) (outer : List Env) (s : Shared) (H : Hp) (args : Args) (us : List Value) (vs : List V) (Q : VK) (E : XK), Room k A → A.guards = some [] → Env0 P w K mg base A outer s H →
    BindsTo s fd args (ps.zip us) → Vals vs us → sp vs H Q E → codeAny (model P w) A (.call (.ref f) args) (CR (L2.CX P w) outer P w H s Q E) s
structure GOk (sg : Sg) (cls : Nat → Addr) (F : Nat → List D → List HOb → CRes) (k : Nat) (P : Program) (w : World) (K : PySem.W.Frag) (mg : Str → Option Value) (base : Heap) : Prop where
  const : ∀ x d, sg.consts.lookup x = some d → ∃ v u, scalV d = some v ∧ mg x = some u ∧ RelV v u
  blt : ∀ x, sg.blts.contains x = true → mg x = none
  fn : ∀ f x, sg.fns.lookup f = some x → ∃ a fd ps, mg x = some (.ref a) ∧ PySem.W.keepIn K (.ref a) = true ∧ Binds K fd ps [] ∧ FnG P w K mg base k a fd ps (spF K cls F f ps.length) ∧ ∀ ds hp, ds.length ≠ ps.length → F f ds hp = .stuck
structure XO (sg : Sg) (cls : Nat → Addr) (F : Nat → List D → List HOb → CRes) (k : Nat) (c : Ct) (X : Cx) : Prop where
  N : X.N = c.N
  nd : c.N.Nodup
  sc : X.env.scope = c.sc
  fn : ∀ x, c.fc x = true → X.fn x = true
  calm : X.calm = true
  room : Room k X.A
  grd : X.A.guards = some []
  gok : GOk sg cls F k X.prog X.w X.K X.mg X.base
/-- what is wanted of an exception that flies -/
def WZ (K : PySem.W.Frag) (cls : Nat → Addr) (Z : XZ) : WX := fun ce d σ H => ∃ c fs s w, SR K cls w s σ H ∧ ExAt K cls w H c fs ce d ∧ Z c fs s w σ H

/-! ### owners at a call -/
/-- the callee's world: what the caller has for itself is locked -/
def Wd.down (w : Wd) : Wd := ⟨w.rho, fun a => match w.own a with
  | none => none
  | some o => if o.old then some o else some .lck⟩
/-- back in the caller -/
def Wd.up (w0 w : Wd) : Wd := ⟨w.rho, fun a => match w0.own a with
  | some o => if o.old then w.own a else some o
  | none => match w.own a with
    | some (.slot _) => none
    | some (.lks _) => none
    | o => o⟩
section
variable {K : PySem.W.Frag} {cls : Nat → Addr} {tm : Bool} {w w0 w1 : Wd} {H H0 H1 : Hp} {σ : L2.St} {s s1 : MSt} {hp : List HOb}
theorem down_old {a : Addr} {o : Own} (h : w.own a = some o) (q : o.old = true) : w.down.own a = some o := by simp [Wd.down, h, q]
theorem down_new {a : Addr} {o : Own} (h : w.own a = some o) (q : o.old = false) : w.down.own a = some .lck := by simp [Wd.down, h, q]
theorem down_none {a : Addr} (h : w.own a = none) : w.down.own a = none := by simp [Wd.down, h]
theorem of_down {a : Addr} {o : Own} (h : w.down.own a = some o) : ∃ o', w.own a = some o' ∧ ((o'.old = true ∧ o = o') ∨ (o'.old = false ∧ o = .lck)) := by
  cases q : w.own a with
  | none => rw [down_none q] at h; cases h
  | some o' =>
    refine ⟨o', rfl, ?_⟩
    cases z : o'.old with
    | true => rw [down_old q z] at h; cases h; exact .inl ⟨rfl, rfl⟩
    | false => rw [down_new q z] at h; cases h; exact .inr ⟨rfl, rfl⟩
theorem down_pre : Pre w H w.down H := ⟨fun _ _ h => h, fun a vs h k => ⟨down_old h rfl, k⟩, fun _ _ h => h, fun _ _ _ h => h⟩
theorem nosl_down : NoSl w.down := fun a o h => by
  obtain ⟨o', h1, h2⟩ := of_down h
  rcases h2 with ⟨h2, rfl⟩ | ⟨h2, rfl⟩
  · exact h2
  · rfl
theorem HR.down (h : HR K cls w hp H) : HR K cls w.down hp H := by
  refine ⟨h.rl, fun a o q => ?_, fun a n f q => ?_, fun n ob q => ?_⟩
  · obtain ⟨o', h1, _⟩ := of_down q
    exact h.dom a o' h1
  · refine h.tok a n f ?_
    rcases q with q | q
    · obtain ⟨o', h1, h2⟩ := of_down q
      rcases h2 with ⟨_, rfl⟩ | ⟨_, z⟩
      · exact .inl h1
      · cases z
    · obtain ⟨o', h1, h2⟩ := of_down q
      rcases h2 with ⟨_, rfl⟩ | ⟨_, z⟩
      · exact .inr h1
      · cases z
  · obtain ⟨r, h1, h2, h3⟩ := h.objs n ob q
    refine ⟨r, h1, down_old h2 rfl, ?_⟩
    cases ob with
    | box xs =>
      obtain ⟨vs, a1, a2⟩ := h3
      exact ⟨vs, a1, a2.pre down_pre⟩
    | ins C fs =>
      obtain ⟨dx, fvs, a1, a2, a3⟩ := h3
      exact ⟨dx, fvs, a1, flds_imp (fun f sv v z => z.to down_pre (fun a vs x y => ⟨down_old x rfl, y⟩) fun a vs x y => ⟨down_old x rfl, y⟩) a2, a3⟩
theorem up_old {a : Addr} {o : Own} (h : w0.own a = some o) (q : o.old = true) : (w0.up w).own a = w.own a := by simp [Wd.up, h, q]
theorem up_young {a : Addr} {o : Own} (h : w0.own a = some o) (q : o.old = false) : (w0.up w).own a = some o := by simp [Wd.up, h, q]
/-- what the callee's world owns and is no slot's -/
theorem up_keep {a : Addr} {o : Own} (e : ExtB tm w0.down H w H1) (h : w.own a = some o) (n1 : ∀ i, o ≠ .slot i) (n2 : ∀ i, o ≠ .lks i) (n3 : o ≠ .lck) : (w0.up w).own a = some o := by
  cases q : w0.own a with
  | none =>
    show (match w0.own a with
      | some o => if o.old then w.own a else some o
      | none => match w.own a with
        | some (.slot _) => none
        | some (.lks _) => none
        | o => o) = some o
    rw [q]
    simp only [h]
    cases o with
    | slot i => exact absurd rfl (n1 i)
    | lks i => exact absurd rfl (n2 i)
    | _ => rfl
  | some o' =>
    cases z : o'.old with
    | true => rw [up_old q z]; exact h
    | false =>
      obtain ⟨k, _⟩ := e.own a _ (down_new q z) rfl fun z => nomatch z
      rw [h] at k
      cases k
      exact absurd rfl n3
theorem of_up {a : Addr} {o : Own} (e : ExtB tm w0.down H w H1) (h : (w0.up w).own a = some o) : (w0.own a = some o ∧ o.old = false) ∨ (w.own a = some o ∧ (∀ o', w0.own a = some o' → o'.old = true)) := by
  cases q : w0.own a with
  | none =>
    refine .inr ⟨?_, fun _ z => nomatch z⟩
    have h' : (match w.own a with
      | some (.slot _) => none
      | some (.lks _) => none
      | o => o) = some o := by
      have z : (w0.up w).own a = (match w0.own a with
        | some o => if o.old then w.own a else some o
        | none => match w.own a with
          | some (.slot _) => none
          | some (.lks _) => none
          | o => o) := rfl
      rw [z, q] at h
      exact h
    cases k : w.own a with
    | none => rw [k] at h'; cases h'
    | some o1 =>
      rw [k] at h'
      cases o1 <;> first
        | (cases h'; rfl)
        | cases h'
  | some o' =>
    cases z : o'.old with
    | true =>
      rw [up_old q z] at h
      exact .inr ⟨h, fun o2 y => by cases y; exact z⟩
    | false =>
      rw [up_young q z] at h
      cases h
      exact .inl ⟨rfl, z⟩
theorem up_pre (e : ExtB tm w0.down H w H1) : Pre w H1 (w0.up w) H1 :=
  ⟨fun _ _ h => h, fun a vs h k => ⟨up_keep e h (fun _ z => nomatch z) (fun _ z => nomatch z) (fun z => nomatch z), k⟩, fun _ _ h => h, fun _ _ _ h => h⟩
theorem HR.up (e : ExtB tm w0.down H w H1) (d0 : ∀ a o, w0.own a = some o → ∃ u, H a = some u) (h : HR K cls w hp H1) : HR K cls (w0.up w) hp H1 := by
  have p := up_pre e
  refine ⟨h.rl, fun a o q => ?_, fun a n f q => ?_, fun n ob q => ?_⟩
  · rcases of_up e q with ⟨q, _⟩ | ⟨q, _⟩
    · obtain ⟨u, hu⟩ := d0 a o q
      exact e.dom a u hu
    · exact h.dom a o q
  · refine h.tok a n f ?_
    rcases q with q | q
    · rcases of_up e q with ⟨_, z⟩ | ⟨q, _⟩
      · cases z
      · exact .inl q
    · rcases of_up e q with ⟨_, z⟩ | ⟨q, _⟩
      · cases z
      · exact .inr q
  · obtain ⟨r, h1, h2, h3⟩ := h.objs n ob q
    refine ⟨r, h1, up_keep e h2 (fun _ z => nomatch z) (fun _ z => nomatch z) (fun z => nomatch z), ?_⟩
    cases ob with
    | box xs =>
      obtain ⟨vs, a1, a2⟩ := h3
      exact ⟨vs, a1, a2.pre p⟩
    | ins C fs =>
      obtain ⟨dx, fvs, a1, a2, a3⟩ := h3
      exact ⟨dx, fvs, a1, flds_imp (fun f sv v z => z.to p (fun a vs x y => ⟨up_keep e x (fun _ z => nomatch z) (fun _ z => nomatch z) (fun z => nomatch z), y⟩) fun a vs x y => ⟨up_keep e x (fun _ z => nomatch z) (fun _ z => nomatch z) (fun z => nomatch z), y⟩) a2, a3⟩
/-- the caller's slots stand behind a call -/
theorem SR.up (e : ExtB tm w0.down H w H1) (h0 : SR K cls w0 s σ H) (h : HR K cls w hp H1) : SR K cls (w0.up w) ⟨s.sl, hp⟩ σ H1 := by
  refine ⟨h.up e h0.hr.dom, h0.sl, fun i sv q => ?_⟩
  obtain ⟨v, h1, h2⟩ := h0.slots i sv q
  refine ⟨v, h1, ?_⟩
  have own : ∀ o, o.old = false → ∀ a vs, w0.own a = some o → H a = some (.lst vs) → (w0.up w).own a = some o ∧ H1 a = some (.lst vs) := fun o z a vs x y => by
    obtain ⟨_, k⟩ := e.own a _ (down_new x z) rfl fun z => nomatch z
    exact ⟨up_young x z, k.trans y⟩
  cases sv with
  | val d => exact Rv.pre (up_pre e) (Rv.pre e.pre (Rv.pre down_pre h2))
  | own xs =>
    obtain ⟨a, vs, k1, k2, k3, k4⟩ := h2
    obtain ⟨j1, j2⟩ := own _ rfl a vs k2 k3
    exact ⟨a, vs, k1, j1, j2, ((k4.pre down_pre).pre e.pre).pre (up_pre e)⟩
  | lk xs =>
    obtain ⟨a, vs, k1, k2, k3, k4⟩ := h2
    obtain ⟨j1, j2⟩ := own _ rfl a vs k2 k3
    exact ⟨a, vs, k1, j1, j2, ((k4.pre down_pre).pre e.pre).pre (up_pre e)⟩
theorem Ext.up (e : ExtB false w0.down H w H1) (d0 : ∀ a o, w0.own a = some o → ∃ u, H a = some u) : Ext w0 H (w0.up w) H1 where
  rho := e.rho
  own := fun a o h q _ => by
    cases z : o.old with
    | true =>
      obtain ⟨k1, k2⟩ := e.own a o (down_old h z) q fun y => by rw [y] at z; cases z
      exact ⟨(up_old h z).trans k1, k2⟩
    | false =>
      obtain ⟨_, k2⟩ := e.own a _ (down_new h z) rfl fun y => nomatch y
      exact ⟨up_young h z, k2⟩
  som := fun a o h => by
    cases z : o.old with
    | true =>
      obtain ⟨o', k⟩ := e.som a o (down_old h z)
      exact ⟨o', (up_old h z).trans k⟩
    | false => exact ⟨o, up_young h z⟩
  old := fun a o h q => by
    obtain ⟨o', k1, k2⟩ := e.old a o (down_old h q) q
    exact ⟨o', (up_old h q).trans k1, k2⟩
  cell := fun a n h => (up_old h rfl).trans (e.cell a n (down_old h rfl))
  fld := fun r n C dx fs h k => by
    obtain ⟨fs', k1, k2⟩ := e.fld r n C dx fs (down_old h rfl) k
    refine ⟨fs', k1, fun f v q => ?_⟩
    obtain ⟨v', k3, k4⟩ := k2 f v q
    refine ⟨v', k3, fun t => ?_⟩
    obtain ⟨a, rfl, t⟩ := t
    have t' : Tk w n f (.ref a) := by
      refine ⟨a, rfl, ?_⟩
      rcases t with t | t
      · rcases of_up e t with ⟨_, z⟩ | ⟨t, _⟩
        · cases z
        · exact .inl t
      · rcases of_up e t with ⟨_, z⟩ | ⟨t, _⟩
        · cases z
        · exact .inr t
    obtain ⟨j1, b, j2, j3⟩ := k4 t'
    refine ⟨j1, b, j2, ?_⟩
    rcases j3 with j3 | j3
    · obtain ⟨o', x1, x2⟩ := of_down j3
      rcases x2 with ⟨_, rfl⟩ | ⟨_, z⟩
      · exact .inl x1
      · cases z
    · obtain ⟨o', x1, x2⟩ := of_down j3
      rcases x2 with ⟨_, rfl⟩ | ⟨_, z⟩
      · exact .inr x1
      · cases z
  dom := e.dom
  tup := e.tup
  frz := e.frz
/-- what a call hands back, in the caller's world -/
theorem Rp.up {d : D} {v : V} (e : ExtB false w0.down H w H1) (r : Rp K w [] H1 d v) (n : New w0.down d v) : RD K w0 H (w0.up w) σ H1 d v := by
  have nn : ∀ a, w0.down.own a = none → w0.own a = none := fun a z => by
    cases q : w0.own a with
    | none => rfl
    | some o =>
      cases y : o.old with
      | true => rw [down_old q y] at z; cases z
      | false => rw [down_new q y] at z; cases z
  cases d with
  | nw xs =>
    obtain ⟨a, vs, rfl, h2, h3, h4⟩ := r
    obtain ⟨a', ea, n⟩ := n
    cases ea
    exact ⟨⟨a, vs, rfl, up_keep e h2 (fun _ z => nomatch z) (fun _ z => nomatch z) (fun z => nomatch z), h3, h4.pre (up_pre e)⟩, a, rfl, nn a n⟩
  | sl i =>
    have r' : ([] : List (Option V))[i]? = some (some v) := r
    simp at r'
  | fl n f =>
    obtain ⟨r0, C, dx, fs, u, h1, h2, h3, h4, h5⟩ := r
    refine ⟨⟨r0, C, dx, fs, u, h1, up_keep e h2 (fun _ z => nomatch z) (fun _ z => nomatch z) (fun z => nomatch z), h3, h4, fun t => ?_⟩, trivial⟩
    obtain ⟨a, rfl, t⟩ := t
    refine h5 ⟨a, rfl, ?_⟩
    rcases t with t | t
    · rcases of_up e t with ⟨_, z⟩ | ⟨t, _⟩
      · cases z
      · exact .inl t
    · rcases of_up e t with ⟨_, z⟩ | ⟨t, _⟩
      · cases z
      · exact .inr t
  | _ => exact ⟨(Rv.pre (up_pre e) (r.hard rfl)).rp, trivial⟩
theorem ExAt.up {c : Nat} {fs : List (Str × D)} {ce : Value} {d : Option Addr} (e : ExtB false w0.down H w H1) (h : ExAt K cls w H1 c fs ce d) : ExAt K cls (w0.up w) H1 c fs ce d := by
  obtain ⟨h1, h2⟩ := h
  refine ⟨h1, ?_⟩
  rcases h2 with h2 | ⟨dd, fvs, k1, k2, k3⟩
  · exact .inl h2
  · exact .inr ⟨dd, fvs, k1, k2, Paired.mapP k3 fun p q z => ⟨z.1, Rv.pre (up_pre e) z.2⟩⟩
end

/-! ### a call -/
section
variable {X : Cx} {k : Nat} {f : Addr} {fd : FuncData} {ps : List Str} {sp : Sp} {pins : List (Addr × Obj)} {σ : L2.St} {H : Hp} {s : Shared} {Q : VK} {E : XK} {W : WX}
theorem call_g {us : List Value} {vs : List V} (G : FnG X.prog X.w X.K X.mg X.base k f fd ps sp) (hr : Room k X.A) (hg : X.A.guards = some []) (hb : Binds X.K fd ps []) (tk : Takes X W)
    (I : Inv X pins σ H s) (r : Vals vs us) (h : sp vs H Q E) (hE : ∀ ce d H', E ce d H' → W ce d σ H') : wpAny (model X.prog X.w) X.A (call (.ref f) us) (EP X pins σ Q) X.xe s := by
  have hl : us.length = ps.length := r.length.symm.trans (G.len vs H Q E h)
  have hb' : BindsTo s fd ⟨us, []⟩ (ps.zip us) := by
    have z := hb s us I.kIn (by rw [List.append_nil]; exact hl)
    rw [List.append_nil] at z
    exact z
  refine wpAny_call (codeAny_mono (G.run X.A X.stack s H ⟨us, []⟩ us vs Q E hr hg I.env0 hb' r h) fun res s' hq => ?_)
  match res with
  | .error e => exact tk e s' (XE.of_call I (fun ce d H' z => hE ce d H' z) hq)
  | .ok (.ret u) => exact I.after hq
  | .ok .next => exact hq.elim
  | .ok .brk => exact hq.elim
  | .ok .cont => exact hq.elim
/-- the reading of a call -/
def tCallG (W : WX) (sp : Sp) (t : TA) : TE := fun σ H Q => t σ H fun vs H1 => ∃ E, sp vs H1 Q E ∧ ∀ ce d H', E ce d H' → W ce d σ H'
theorem pe_callG {x : Str} {p pos : Pos} {e : Expr} {es : List Expr} {t : TA} (G : FnG X.prog X.w X.K X.mg X.base k f fd ps sp) (hr : Room k X.A) (hgd : X.A.guards = some []) (hg : Gl X x) (hm : X.mg x = some (.ref f)) (hk : PySem.W.keepIn X.K (.ref f) = true)
    (hb : Binds X.K fd ps []) (tk : Takes X W) (ha : PA X (e :: es) t) (hd : (x == ("__debug__" : Str)) = false)
    (he : starEach (e :: es) X.env = (false, eval e X.env) :: starEach es X.env) (hpl : (backTo pos (starEach es X.env)).any (·.1) = false) : PE X (.Call (.Name x p) (e :: es) [] pos) (tCallG W sp t) := by
  constructor
  intro pins s σ H Q I h
  apply wpAny_Call_Name_kw
  apply ld_glob I hg hm _ hd
  refine PySem.W.callWith_K (h₀ := X.base) I.ok.mod.kin hk (thn (ha.run pos pins s σ H _ I h) fun us s1 hq => ?_) he hpl
  obtain ⟨vs, H1, I1, r, E, q, qE⟩ := hq
  exact ⟨I1.kIn, call_g G hr hgd hb tk I1 r q qE⟩
theorem pe_callG0 {x : Str} {p pos : Pos} (G : FnG X.prog X.w X.K X.mg X.base k f fd ps sp) (hr : Room k X.A) (hgd : X.A.guards = some []) (hg : Gl X x) (hm : X.mg x = some (.ref f)) (hk : PySem.W.keepIn X.K (.ref f) = true)
    (hb : Binds X.K fd ps []) (tk : Takes X W) (hd : (x == ("__debug__" : Str)) = false) : PE X (.Call (.Name x p) [] [] pos) (tCallG W sp tNil) := by
  constructor
  intro pins s σ H Q I h
  apply wpAny_Call_Name_kw
  apply ld_glob I hg hm _ hd
  obtain ⟨E, q, qE⟩ := h
  exact PySem.W.callWith_K0 I.kIn hk (call_g (us := []) (vs := []) G hr hgd hb tk I .nil q qE)
end
end MP
end
section
set_option maxRecDepth 100000
set_option maxHeartbeats 1000000
set_option autoImplicit false
/-! MPm: enumerate over a tuple. -/
namespace MP
open PySem PySem.Spec PyProof.Rows L2

theorem meets_enum1 {v : Value} {o : Obj} {G : Heap → Prop} (B : Begins v o G) :
    Meets (Builtin.«enumerate.__new__» ⟨[.type "enumerate", v], []⟩) (fun _ R s => G s.heap ∧
      R (.ok (.ret (.ref (s.heap.push o).objs.size))) { s with heap := (s.heap.push o).push { cls := .type "enumerate", data := .fields #[.none, .bool false, .ref s.heap.objs.size, rawInt 0, .none, .none] } }) :=
  .of_wp fun prog w A R s hh => by
    obtain ⟨hp, gs, dr, tk, os⟩ := s
    obtain ⟨g1, hh⟩ := hh
    have hsub := sub_enumerate
    have it : ∀ {A' : Around} {E Q : Value → Shared → Prop}, Q (.ref hp.objs.size) ⟨hp.push o, gs, dr, tk, os⟩ → wpAny (model prog w) A' (pyIter v) Q E ⟨hp, gs, dr, tk, os⟩ :=
      fun {A' E Q} q => B.iter prog w A' E ⟨hp, gs, dr, tk, os⟩ Q g1 q
    wp_walk using it
    apply wpAny_stack_any
    intro st
    apply wpAny_pure
    split
    · rename_i c _ _ _ _ _
      cases (c == Value.type "enumerate") <;> (wp_walk using it; exact ⟨_, rfl, hh⟩)
    · wp_walk using it
      exact ⟨_, rfl, hh⟩
theorem call_enum1 {prog : Program} {w : World} {A : Around} {E : Value → Shared → Prop} {s : Shared} {v : Value} {o : Obj} {G : Heap → Prop} {Q : Value → Shared → Prop} (B : Begins v o G) (g : G s.heap)
    (h : ∀ h', IsEnum h' (s.heap.objs.size + 1) s.heap.objs.size 0 .none → h'.get? s.heap.objs.size = some o → (∀ b ob, s.heap.get? b = some ob → h'.get? b = some ob) → Q (.ref (s.heap.objs.size + 1)) { s with heap := h' }) :
    wpAny (model prog w) A (call (.type "enumerate") [v]) Q E s := by
  refine callType_new F.called_enumerate (by decide) (F.typeCall_enumerate_1 _) (F.newCall_enumerate_1 _) (fun ob => F.args_object_init_2 ob _) F.entry_enumerate_new (meets_enum1 B) ⟨g, ?_⟩
  have sz : (s.heap.push o).objs.size = s.heap.objs.size + 1 := Heap.size_push ..
  show _ ∧ _
  rw [sz]
  generalize eo : ({ cls := .type "enumerate", data := .fields #[.none, .bool false, .ref s.heap.objs.size, rawInt 0, .none, .none] } : Obj) = oe
  have top : ((s.heap.push o).push oe).get? (s.heap.objs.size + 1) = some oe := by
    rw [← sz]
    exact Heap.get?_push_size (s.heap.push o) (by rw [← eo]; rfl)
  have isE : IsEnum ((s.heap.push o).push oe) (s.heap.objs.size + 1) s.heap.objs.size 0 .none := by
    rw [← eo] at top ⊢
    exact top
  exact ⟨⟨oe, top, by rw [← eo]⟩, h _ isE (Heap.get?_push_of_some _ (Heap.get?_push_size _ B.free)) fun b ob e => Heap.get?_push_of_some _ (Heap.get?_push_of_some _ e)⟩

/-- the tuple at a, each item in a new pair with its number -/
def IteT (K : PySem.W.Frag) (a : Addr) : It where
  go := fun i H => ∃ (xs : List V) (x : V), SqT K H a xs ∧ xs[i]? = some x
  yld := fun i H v H' => ∃ T x, v = .ref T ∧ H T = none ∧ H' = upd H T (.tup [.int (i : Nat), x]) ∧ ∀ xs, SqT K H a xs → xs[i]? = some x
  stop := fun i H => ∃ xs : List V, SqT K H a xs ∧ xs.length = i
theorem turn_enumT {P : Program} {w : World} {K : PySem.W.Frag} {elts : List Expr} {kk : Nat} {tpos : Pos} (a e it : Addr) (hai : a ≠ it) (hae : a ≠ e) :
    Turn P w K (.Tuple elts kk tpos) (IteT K a) [e, it] e (fun i h => (∃ old, IsEnum h e it ((i : Nat) : Int) old) ∧ h.IsTupleIter it a i ∧ e ≠ it) where
  mem := List.mem_cons_self ..
  obj := fun i h st b hb => by
    obtain ⟨⟨old, he⟩, ⟨o, ho, hc, hd⟩, _⟩ := st
    rcases List.mem_cons.mp hb with z | z
    · subst z
      exact ⟨_, he, fun v q => nomatch q⟩
    · have z' : b = it := by simpa using z
      subst z'
      refine ⟨o, ho, fun v q => ?_⟩
      rw [hd] at q
      cases q
  keep := fun i h h' st k => by
    obtain ⟨⟨old, he⟩, hi, ne⟩ := st
    exact ⟨⟨old, k e (by simp) _ he⟩, hi.at fun o q => k it (by simp) o q, ne⟩
  item := by
    intro X hP hw hK hc i pins s σ H E I hf st hg
    subst hP hw hK
    obtain ⟨⟨old, he⟩, hit, ne⟩ := st
    obtain ⟨xs, x, hq, hx⟩ := hg
    obtain ⟨its, rv, p, hz⟩ := I.tuple hq
    obtain ⟨u, hu, ru⟩ := rv.get hx
    have el : e < s.heap.objs.size := Heap.lt_size he
    have il : it < s.heap.objs.size := by
      obtain ⟨_, q, _⟩ := hit
      exact Heap.lt_size q
    have D := Draws.tuple (prog := X.prog) (w := X.w) (A := X.A.in1) (I.ok.hd hc) it a hai its.toArray
    have hlt : i < its.toArray.size := by
      have q := (List.getElem?_eq_some_iff.mp hu).1
      simpa using q
    refine wpAny_pyNext_enum_itemD D he ⟨hit, p⟩ hlt ne (by simp [hae.symm, ne]) fun y h' tk hy ho st' hT hsz hk => ?_
    have hyu : y = u := by
      have q : its.toArray[i]? = some u := by simpa using hu
      rw [hy] at q
      exact Option.some.inj q
    subst hyu
    refine ⟨_, rfl, wpAny_letOwnedTupleGo_enum (s := { s with heap := h', toks := tk + 1 }) ho fun h2 he2 sb => ?_⟩
    have hT2 : h2.get? s.heap.objs.size = some { cls := .type "tuple", data := .seq #[.int i tk, y] } := (sb.2 _ (Nat.ne_of_gt el)).trans hT
    have new : ObjOk X.prog X.w (upd H s.heap.objs.size (.tup [.int (i : Nat), x])) h2 s.heap.objs.size (.tup [.int (i : Nat), x]) :=
      ⟨(by show 2 ≤ sizeLine; decide), [.int i tk, y], .cons ⟨_, rfl⟩ (.cons ru .nil), _, hT2, rfl, _, rfl⟩
    have I1 : Inv X pins σ (upd H s.heap.objs.size (.tup [.int (i : Nat), x])) { s with heap := h2, toks := tk + 1 } := by
      refine I.turnedNew (ch := [e, it]) (fun b ob hb q => ?_) hf (Nat.le_refl _) new
      have n1 : b ≠ e := fun z => hb (by simp [z])
      have n2 : b ≠ it := fun z => hb (by simp [z])
      exact (sb.2 b n1).trans (hk b ob n1 n2 q)
    refine ⟨.ref s.heap.objs.size, _, I1, rfl, ⟨_, x, rfl, I.hok.fresh (Nat.le_refl _), rfl, fun ys hy => ?_⟩, ⟨⟨y, ?_⟩, st'.1.at fun o q => (sb.2 it ne.symm).trans q, ne⟩, fun b hb => ?_⟩
    · rw [I.tuple_inj hy hq]
      exact hx
    · have e1 : ((i + 1 : Nat) : Int) = (i : Int) + 1 := by omega
      rw [e1]
      exact he2
    · have lt : b < s.heap.objs.size := by
        rcases List.mem_cons.mp hb with z | z
        · rw [z]; exact el
        · have z' : b = it := by simpa using z
          rw [z']; exact il
      rw [upd_ne (Nat.ne_of_lt lt)]
      exact (hf b hb).1
  done := by
    intro X hP hw hK hc i pins s σ H E I hf st hg
    subst hP hw hK
    obtain ⟨⟨old, he⟩, hit, ne⟩ := st
    obtain ⟨xs, hq, hx⟩ := hg
    obtain ⟨its, rv, p, hz⟩ := I.tuple hq
    obtain ⟨f0, f1, f2, f3, f4, f5⟩ := hf it (by simp)
    have D := Draws.tuple (prog := X.prog) (w := X.w) (A := X.A.in1) (I.ok.hd hc) it a hai its.toArray
    have sz : its.toArray.size = i := by
      have q := rv.length
      simp only [List.size_toArray]
      omega
    refine wpAny_pyNext_enum_endD D he (by rw [sz]; exact ⟨hit, p⟩) fun h' eb => ⟨rfl, ?_⟩
    exact I.turned (t' := s.toks) (fun b o hb q => eb b o hb q) f0 f1 f3 f4 f5
  self := fun A i s Q E st h => by
    obtain ⟨⟨_, he⟩, _⟩ := st
    exact wpAny_pyIter_enum he h
theorem walk_enumT {K : PySem.W.Frag} {a : Addr} {xs : List V} : Walk (IteT K a) xs.length (fun H => SqT K H a xs) (YPair (fun i => some (.int (i : Nat))) (fun i => xs[i]?)) := by
  refine ⟨fun i _ hi q => ⟨xs, xs[i], q, by simp [hi]⟩, fun _ q => ⟨xs, q, rfl⟩, fun i H v H' _ q y => ?_⟩
  obtain ⟨T, x, h1, h2, h3, h4⟩ := y
  exact ⟨T, .int (i : Nat), x, h1, h2, h3, rfl, h4 xs q⟩

/-! ### the walks of mini-Python -/
section
variable (K : PySem.W.Frag) (cls : Nat → Addr)
/-- J walks over xs, as long as what is fixed in (w, H) stands -/
def ItOk (w : Wd) (H : Hp) (xs : List D) (J : It) : Prop :=
  ∃ (G : Hp → Prop) (Y : Nat → Hp → V → Hp → Prop), Walk J xs.length G Y ∧ (∀ tm w' H', ExtB tm w H w' H' → G H') ∧
    ∀ tm w' H' i v H2 s' σ', ExtB tm w H w' H' → SR K cls w' s' σ' H' → i < xs.length → Y i H' v H2 → ∃ d w2, xs[i]? = some d ∧ SR K cls w2 s' σ' H2 ∧ Ext w' H' w2 H2 ∧ Rv K w2 H2 d v
/-- what is walked: the value x, its items, how -/
def ItSrc (w : Wd) (σ : L2.St) (H : Hp) (xs : List D) (x : D) (J : It) : Prop :=
  (∃ a vs, Rp K w σ H x (.ref a) ∧ H a = some (.lst vs) ∧ Rvs K w H xs vs ∧ J = Itl K a) ∨
  (∃ a vs, SqT K H a vs ∧ Rvs K w H xs vs ∧ J = Itt K a ∧ x.hard = true) ∨
  (∃ z, xs = strD z ∧ J = Its z ∧ x = .str z) ∨
  (∃ lo hi, xs = rngD lo hi ∧ J = Itr lo (hi - lo).toNat ∧ x = .non) ∨
  (∃ a vs ys, Rp K w σ H x (.ref a) ∧ H a = some (.lst vs) ∧ Rvs K w H ys vs ∧ xs = enumD 0 ys ∧ J = Ite K a) ∨
  (∃ a vs ys, SqT K H a vs ∧ Rvs K w H ys vs ∧ xs = enumD 0 ys ∧ J = IteT K a ∧ x.hard = true)
end
section
variable {K : PySem.W.Frag} {cls : Nat → Addr} {tm : Bool} {w w0 w1 : Wd} {H H0 H1 : Hp} {σ : L2.St} {s s1 : MSt}
theorem enumD_get : ∀ (ys : List D) (k i : Nat), (enumD k ys)[i]? = (ys[i]?).map fun d => D.tup [.int ((k + i : Nat) : Int), d]
  | [], k, i => by simp [enumD]
  | y :: ys, k, 0 => by simp [enumD]
  | y :: ys, k, i + 1 => by
    have ih := enumD_get ys (k + 1) i
    simp only [enumD, List.getElem?_cons_succ]
    rw [ih]
    have e : k + 1 + i = k + (i + 1) := by omega
    rw [e]
theorem enumD_length : ∀ (ys : List D) (k : Nat), (enumD k ys).length = ys.length
  | [], k => rfl
  | y :: ys, k => by simp [enumD, enumD_length ys]
theorem rngD_length {lo hi : Int} : (rngD lo hi).length = (hi - lo).toNat := by simp [rngD]
theorem rngD_get {lo hi : Int} {i : Nat} (h : i < (hi - lo).toNat) : (rngD lo hi)[i]? = some (.int (lo + (i : Int))) := by
  simp [rngD, h]
/-- the pair that enumerate makes -/
theorem pair_ok {i : Nat} {T : Addr} {d : D} {u : V} (sr : SR K cls w s σ H) (hT : H T = none) (r : Rv K w H d u) :
    SR K cls w s σ (upd H T (.tup [.int (i : Nat), u])) ∧ Ext w H w (upd H T (.tup [.int (i : Nat), u])) ∧ Rv K w (upd H T (.tup [.int (i : Nat), u])) (.tup [.int ((i : Nat) : Int), d]) (.ref T) := by
  have k : Keep w H w (upd H T (.tup [.int (i : Nat), u])) := Keep.plain hT sr.hr.dom
  have e : Ext w H w (upd H T (.tup [.int (i : Nat), u])) := k.ext sr.hr.dom
  refine ⟨k.sr sr, e, ?_⟩
  unfold Rv
  refine ⟨T, _, rfl, SqT.of upd_same, .mk ?_ (.mk (r.ext e) .mk0)⟩
  unfold Rv
  rfl
/-- the source's list is fixed -/
theorem it_lst {a : Addr} {o : Own} {vs : List V} {xs : List D} (h1 : w.own a = some o) (h2 : o.fix = true) (h3 : o ≠ .tmp) (h4 : H a = some (.lst vs)) (h5 : Rvs K w H xs vs) : ItOk K cls w H xs (Itl K a) := by
  have st : ∀ tm w' H', ExtB tm w H w' H' → SqL K H' a vs := fun tm w' H' e => by
    obtain ⟨_, k⟩ := e.own a o h1 h2 fun z => absurd z h3
    exact SqL.of (k.trans h4)
  refine ⟨fun H' => SqL K H' a vs, YAt vs, by rw [← h5.length]; exact walk_list, st, fun tm w' H' i v H2 s' σ' e sr hi y => ?_⟩
  obtain ⟨rfl, y⟩ := y
  obtain ⟨d, k1, k2⟩ := h5.get' y
  exact ⟨d, w', k1, sr, ExtB.refl, k2.ext e⟩
theorem it_tup {a : Addr} {vs : List V} {xs : List D} (h4 : SqT K H a vs) (h5 : Rvs K w H xs vs) : ItOk K cls w H xs (Itt K a) := by
  refine ⟨fun H' => SqT K H' a vs, YAt vs, by rw [← h5.length]; exact walk_tup, fun tm w' H' e => SqT.ext e h4, fun tm w' H' i v H2 s' σ' e sr hi y => ?_⟩
  obtain ⟨rfl, y⟩ := y
  obtain ⟨d, k1, k2⟩ := h5.get' y
  exact ⟨d, w', k1, sr, ExtB.refl, k2.ext e⟩
theorem it_str {z : Str} : ItOk K cls w H (strD z) (Its z) := by
  have hl : (strD z).length = z.cps.size := by simp [strD]
  refine ⟨fun _ => True, _, by rw [hl]; exact walk_str, fun _ _ _ _ => trivial, fun tm w' H' i v H2 s' σ' e sr hi y => ?_⟩
  obtain ⟨rfl, c, h1, rfl⟩ := y
  refine ⟨.str ⟨#[c]⟩, w', ?_, sr, ExtB.refl, ?_⟩
  · have h1' : z.cps.toList[i]? = some c := by simpa using h1
    simp [strD, h1']
  · unfold Rv
    rfl
theorem it_rng {lo hi : Int} : ItOk K cls w H (rngD lo hi) (Itr lo (hi - lo).toNat) := by
  refine ⟨fun _ => True, _, by rw [rngD_length]; exact walk_range, fun _ _ _ _ => trivial, fun tm w' H' i v H2 s' σ' e sr h y => ?_⟩
  obtain ⟨rfl, rfl⟩ := y
  rw [rngD_length] at h
  refine ⟨.int (lo + (i : Int)), w', rngD_get h, sr, ExtB.refl, ?_⟩
  unfold Rv
  rfl
theorem it_enum {a : Addr} {o : Own} {vs : List V} {ys : List D} (h1 : w.own a = some o) (h2 : o.fix = true) (h3 : o ≠ .tmp) (h4 : H a = some (.lst vs)) (h5 : Rvs K w H ys vs) : ItOk K cls w H (enumD 0 ys) (Ite K a) := by
  have st : ∀ tm w' H', ExtB tm w H w' H' → SqL K H' a vs := fun tm w' H' e => by
    obtain ⟨_, k⟩ := e.own a o h1 h2 fun z => absurd z h3
    exact SqL.of (k.trans h4)
  refine ⟨fun H' => SqL K H' a vs, _, by rw [enumD_length, ← h5.length]; exact walk_enum, st, fun tm w' H' i v H2 s' σ' e sr hi y => ?_⟩
  obtain ⟨T, x, u, rfl, hT, rfl, ex, eu⟩ := y
  cases ex
  obtain ⟨d, k1, k2⟩ := h5.get' eu
  obtain ⟨p1, p2, p3⟩ := pair_ok (i := i) sr hT (k2.ext e)
  exact ⟨_, w', by rw [enumD_get, k1, Nat.zero_add]; rfl, p1, p2, p3⟩
theorem it_enumT {a : Addr} {vs : List V} {ys : List D} (h4 : SqT K H a vs) (h5 : Rvs K w H ys vs) : ItOk K cls w H (enumD 0 ys) (IteT K a) := by
  refine ⟨fun H' => SqT K H' a vs, _, by rw [enumD_length, ← h5.length]; exact walk_enumT, fun tm w' H' e => SqT.ext e h4, fun tm w' H' i v H2 s' σ' e sr hi y => ?_⟩
  obtain ⟨T, x, u, rfl, hT, rfl, ex, eu⟩ := y
  cases ex
  obtain ⟨d, k1, k2⟩ := h5.get' eu
  obtain ⟨p1, p2, p3⟩ := pair_ok (i := i) sr hT (k2.ext e)
  exact ⟨_, w', by rw [enumD_get, k1, Nat.zero_add]; rfl, p1, p2, p3⟩
end
end MP
end
section
set_option maxRecDepth 100000
set_option maxHeartbeats 1000000
set_option autoImplicit false
/-! MPn: what is walked is fixed meanwhile. -/
namespace MP
open PySem PySem.Spec PyProof.Rows L2
section
variable {K : PySem.W.Frag} {cls : Nat → Addr} {tm : Bool} {w w0 w1 w3 : Wd} {H H0 H1 H3 : Hp} {σ : L2.St} {s s1 : MSt}
/-- a lock is taken away again -/
theorem Ext.reput {a : Addr} {o1 o3 : Own} (e0 : Ext w0 H0 w H) (h1 : w.own a = some o1) (ho : (∃ i, o1 = .slot i) ∨ ∃ n f, o1 = .fld n f ∧ o3 = .lkf n f) (h3 : w3.own a = some o3) (e : Ext w0 H0 w3 H3) : Ext w0 H0 (w3.put a o1) H3 := by
  have nfix : o1.fix = false := by
    rcases ho with ⟨i, rfl⟩ | ⟨n, f, rfl, _⟩ <;> rfl
  have ncell : ∀ n, o1 ≠ .cell n := fun n z => by
    rcases ho with ⟨i, q⟩ | ⟨m, f, q, _⟩ <;> (rw [q] at z; cases z)
  refine ⟨e.rho, fun b o h q z => ?_, fun b o h => ?_, fun b o h q => ?_, fun b n h => ?_, fun r n C dx fs h k => ?_, e.dom, e.tup, e.frz⟩
  · obtain ⟨k1, k2⟩ := e.own b o h q z
    have ne : b ≠ a := fun y => by
      subst y
      obtain ⟨j1, _⟩ := e0.own b o h q z
      rw [h1] at j1
      cases j1
      rw [nfix] at q
      cases q
    exact ⟨(put_ne ne).trans k1, k2⟩
  · by_cases y : b = a
    · subst y
      exact ⟨o1, put_same⟩
    · obtain ⟨o', k⟩ := e.som b o h
      exact ⟨o', (put_ne y).trans k⟩
  · by_cases y : b = a
    · subst y
      obtain ⟨o', j1, j2⟩ := e0.old b o h q
      rw [h1] at j1
      cases j1
      exact ⟨o1, put_same, j2⟩
    · obtain ⟨o', k1, k2⟩ := e.old b o h q
      exact ⟨o', (put_ne y).trans k1, k2⟩
  · have ne : b ≠ a := fun y => by
      subst y
      have j := e0.cell b n h
      rw [h1] at j
      exact ncell n (Option.some.inj j)
    exact (put_ne ne).trans (e.cell b n h)
  · obtain ⟨fs', k1, k2⟩ := e.fld r n C dx fs h k
    refine ⟨fs', k1, fun f v q => ?_⟩
    obtain ⟨v', k3, k4⟩ := k2 f v q
    refine ⟨v', k3, fun t => k4 ?_⟩
    obtain ⟨b, rfl, t⟩ := t
    refine ⟨b, rfl, ?_⟩
    by_cases y : b = a
    · subst y
      rw [put_same] at t
      rcases ho with ⟨i, rfl⟩ | ⟨m, g, rfl, rfl⟩
      · rcases t with t | t <;> cases t
      · rcases t with t | t
        · cases t
          exact .inr h3
        · cases t
    · rw [put_ne y] at t
      exact t
/-- what is behind a walk: the lock can be taken away -/
def UnL (K : PySem.W.Frag) (cls : Nat → Addr) (w0 : Wd) (H0 : Hp) (w : Wd) (σ : L2.St) (H : Hp) (x : D) : Prop :=
  ∀ w3 s3 H3, Ext w H w3 H3 → SR K cls w3 s3 σ H3 → ∃ w4, SR K cls w4 (unlockD x s3) σ H3 ∧ Ext w0 H0 w4 H3 ∧ Pre w3 H3 w4 H3 ∧ ∀ q, w3.own q = some .tmp → w4.own q = some .tmp
structure ItR (K : PySem.W.Frag) (cls : Nat → Addr) (w0 : Wd) (H0 : Hp) (w : Wd) (σ : L2.St) (H : Hp) (p : List D × D × Bool) (J : It) : Prop where
  it : ItOk K cls w H p.1 J
  un : p.2.2 = true → UnL K cls w0 H0 w σ H p.2.1
theorem UnL.none {x : D} (e : Ext w0 H0 w H) (h : ∀ s3, unlockD x s3 = s3) : UnL K cls w0 H0 w σ H x := fun w3 s3 H3 e3 sr => ⟨w3, by rw [h]; exact sr, e.trans e3, ⟨fun _ _ h => h, fun _ _ h k => ⟨h, k⟩, fun _ _ h => h, fun _ _ _ h => h⟩, fun _ h => h⟩
theorem lock_sl {i : Nat} {xs : List D} {a : Addr} {vs : List V} (h : SR K cls w s σ H) (g : getS s i = some (.own xs)) (hσ : σ[i]? = some (some (.ref a))) :
    ∃ w', SR K cls w' (s.setS i (some (.lk xs))) σ H ∧ w'.own a = some (.lks i) ∧ Pre w H w' H ∧ ∀ w0 H0, Ext w0 H0 w H → Ext w0 H0 w' H ∧ UnL K cls w0 H0 w' σ H (.sl i) := by
  obtain ⟨v', h1, a', us, rfl, r2, r3, r4⟩ := h.slots i _ (getS_of g)
  rw [hσ] at h1
  cases h1
  have c : Chg w H (w.put a (.lks i)) H a (.slot i) := chg_put r2 r3 (fun z => nomatch z)
  have nt : ∀ n f, ((w.put a (.lks i)).own a = some (.fld n f) ∨ (w.put a (.lks i)).own a = some (.lkf n f)) → False := fun n f z => by
    rw [put_same] at z
    rcases z with z | z <;> cases z
  refine ⟨w.put a (.lks i), h.setSlot c (.inl rfl) nt ⟨_, hσ, a, us, rfl, put_same, r3, r4.pre c.pre⟩, put_same, c.pre, fun w0 H0 e0 => ?_⟩
  have e1 : Ext w H (w.put a (.lks i)) H := c.ext ⟨_, put_same⟩ (fun z => nomatch z) (fun z => nomatch z) (fun _ z => nomatch z) (fun n f z => (nt n f z).elim) fun n C dx fs z _ => by
    rw [r2] at z
    cases z
  refine ⟨e0.trans e1, fun w3 s3 H3 e3 sr => ?_⟩
  have eu : unlockD (.sl i) s3 = (match getS s3 i with
    | some (.lk xs) => s3.setS i (some (.own xs))
    | _ => s3) := rfl
  have idl : ∀ (_ : unlockD (.sl i) s3 = s3), ∃ w4, SR K cls w4 (unlockD (.sl i) s3) σ H3 ∧ Ext w0 H0 w4 H3 ∧ Pre w3 H3 w4 H3 ∧ ∀ q, w3.own q = some .tmp → w4.own q = some .tmp := fun z =>
    ⟨w3, by rw [z]; exact sr, (e0.trans e1).trans e3, ⟨fun _ _ h => h, fun _ _ h k => ⟨h, k⟩, fun _ _ h => h, fun _ _ _ h => h⟩, fun _ h => h⟩
  cases g3 : getS s3 i with
  | none => exact idl (by rw [eu, g3])
  | some sv =>
    cases sv with
    | val d => exact idl (by rw [eu, g3])
    | own ys => exact idl (by rw [eu, g3])
    | lk ys =>
      obtain ⟨v3, j1, a3, vs3, rfl, j3, j4, j5⟩ := sr.slots i _ (getS_of g3)
      rw [hσ] at j1
      cases j1
      have c3 : Chg w3 H3 (w3.put a (.slot i)) H3 a (.lks i) := chg_put j3 j4 (fun z => nomatch z)
      have nt3 : ∀ n f, ((w3.put a (.slot i)).own a = some (.fld n f) ∨ (w3.put a (.slot i)).own a = some (.lkf n f)) → False := fun n f z => by
        rw [put_same] at z
        rcases z with z | z <;> cases z
      refine ⟨w3.put a (.slot i), ?_, Ext.reput e0 r2 (.inl ⟨i, rfl⟩) j3 ((e0.trans e1).trans e3), c3.pre, fun q z => ?_⟩
      · rw [eu, g3]
        exact sr.setSlot c3 (.inr rfl) nt3 ⟨_, hσ, a, vs3, rfl, put_same, j4, j5.pre c3.pre⟩
      · have ne : q ≠ a := fun y => by
          rw [y, j3] at z
          cases z
        exact (put_ne ne).trans z
theorem lock_fl {n : Nat} {f : Str} {xs : List D} {a : Addr} (h : SR K cls w s σ H) (g : getF s.hp n f = some (.own xs)) (r : Rp K w σ H (.fl n f) (.ref a)) :
    ∃ w', SR K cls w' (s.setFl n f (.lk xs)) σ H ∧ w'.own a = some (.lkf n f) ∧ Pre w H w' H ∧ ∀ w0 H0, Ext w0 H0 w H → Ext w0 H0 w' H ∧ UnL K cls w0 H0 w' σ H (.fl n f) := by
  obtain ⟨C, fs, k1, k2⟩ := getF_some g
  obtain ⟨r0, h1, h2, dx, fvs, f1, f2, f3⟩ := h.hr.objs n _ k1
  obtain ⟨u, l1, l2⟩ := flds_get f2 k2
  obtain ⟨a', vs, rfl, r2, r3, r4⟩ := l2
  have ea : a' = a := by
    obtain ⟨r', C', dx', fs', u', q1, q2, q3, q4, q5⟩ := r
    rw [h1] at q1
    cases q1
    rw [f1] at q3
    cases q3
    rw [l1] at q4
    cases q4
    have z := q5 ⟨a', rfl, .inl r2⟩
    exact V.ref.inj z
  subst ea
  have c : Chg w H (w.put a' (.lkf n f)) H a' (.fld n f) := chg_put r2 r3 (fun z => nomatch z)
  have e1 : Ext w H (w.put a' (.lkf n f)) H := c.ext ⟨_, put_same⟩ (fun z => nomatch z) (fun _ => ⟨_, put_same, rfl⟩) (fun _ z => nomatch z) (fun m g z => by
    rw [put_same] at z
    rcases z with z | z <;> cases z
    exact .inl r2) fun m C dx fs z _ => by
      rw [r2] at z
      cases z
  refine ⟨w.put a' (.lkf n f), ⟨h.hr.setField c (.inl rfl) k1 k2 (fun m g z => ?_) (fun v z => ?_), h.sl, fun i sv q => Chg.slots (s := s) c h (fun _ z => nomatch z) (fun _ z => nomatch z) i sv q⟩, put_same, c.pre, fun w0 H0 e0 => ⟨e0.trans e1, fun w3 s3 H3 e3 sr => ?_⟩⟩
  · rw [put_same] at z
    rcases z with z | z <;> cases z
    exact ⟨rfl, rfl, rfl⟩
  · obtain ⟨b, vs', rfl, z2, z3, z4⟩ := z
    have e1 := (h.hr.tok b n f (.inl z2)).2 r0 _ _ _ h1 f1
    rw [l1] at e1
    cases e1
    exact ⟨a', vs, rfl, put_same, r3, r4.pre c.pre⟩
  · have eu : unlockD (.fl n f) s3 = (match getF s3.hp n f with
      | some (.lk xs) => s3.setFl n f (.own xs)
      | _ => s3) := rfl
    have idl : ∀ (_ : unlockD (.fl n f) s3 = s3), ∃ w4, SR K cls w4 (unlockD (.fl n f) s3) σ H3 ∧ Ext w0 H0 w4 H3 ∧ Pre w3 H3 w4 H3 ∧ ∀ q, w3.own q = some .tmp → w4.own q = some .tmp := fun z =>
      ⟨w3, by rw [z]; exact sr, (e0.trans e1).trans e3, ⟨fun _ _ h => h, fun _ _ h k => ⟨h, k⟩, fun _ _ h => h, fun _ _ _ h => h⟩, fun _ h => h⟩
    cases g3 : getF s3.hp n f with
    | none => exact idl (by rw [eu, g3])
    | some sv =>
      cases sv with
      | val d => exact idl (by rw [eu, g3])
      | own ys => exact idl (by rw [eu, g3])
      | lk ys =>
        obtain ⟨C3, fs3, y1, y2⟩ := getF_some g3
        obtain ⟨r3', z1, z2, dx3, fvs3, x1, x2, x3⟩ := sr.hr.objs n _ y1
        obtain ⟨u3, t1, t2⟩ := flds_get x2 y2
        obtain ⟨a3, vs3, rfl, t3, t4, t5⟩ := t2
        have hold : w3.own a' = some (.lkf n f) := (e3.own a' _ put_same rfl fun z => nomatch z).1
        have ea : a3 = a' := by
          have q1 := (sr.hr.tok a' n f (.inr hold)).2 r3' _ _ _ z1 x1
          rw [t1] at q1
          cases q1
          rfl
        subst ea
        have c3 : Chg w3 H3 (w3.put a3 (.fld n f)) H3 a3 (.lkf n f) := chg_put t3 t4 (fun z => nomatch z)
        refine ⟨w3.put a3 (.fld n f), ?_, Ext.reput e0 r2 (.inr ⟨n, f, rfl, rfl⟩) t3 ((e0.trans e1).trans e3), c3.pre, fun q z => ?_⟩
        · rw [eu, g3]
          refine ⟨sr.hr.setField c3 (.inr rfl) y1 y2 (fun m g z => ?_) (fun v z => ?_), sr.sl, fun i sv q => Chg.slots (s := s3) c3 sr (fun _ z => nomatch z) (fun _ z => nomatch z) i sv q⟩
          · rw [put_same] at z
            rcases z with z | z <;> cases z
            exact ⟨rfl, rfl, rfl⟩
          · obtain ⟨b, vs', rfl, b2, b3, b4⟩ := z
            have e1 := (sr.hr.tok b n f (.inr b2)).2 r3' _ _ _ z1 x1
            rw [t1] at e1
            cases e1
            exact ⟨a3, vs3, rfl, put_same, t4, t5.pre c3.pre⟩
        · have ne : q ≠ a3 := fun y => by
            rw [y, t3] at z
            cases z
          exact (put_ne ne).trans z
/-- freezing what holds a list -/
theorem frz_lview {x d' : D} {xs : List D} (e : lview x s = some xs) (hr : ∀ n, x ≠ .ref n) (g : frz x s = some (d', s1)) : d' = .lst xs := by
  cases x with
  | lst ys => cases e; cases g; rfl
  | nw ys => cases e; cases g; rfl
  | sl i =>
    have e' : (getS s i).bind svList = some xs := e
    have g' : (match getS s i with
      | some (.own xs) => some (D.lst xs, s.setS i (some (.val (.lst xs))))
      | some (.val x) => some (x, s)
      | _ => none) = some (d', s1) := g
    cases q : getS s i with
    | none => rw [q] at e'; cases e'
    | some sv =>
      rw [q] at e' g'
      cases sv with
      | own ys => cases e'; cases g'; rfl
      | lk ys => cases g'
      | val y =>
        cases g'
        cases d' with
        | lst zs => cases e'; rfl
        | _ => cases e'
  | fl n f =>
    have e' : (getF s.hp n f).bind flList = some xs := e
    have g' : (match getF s.hp n f with
      | some (.own xs) => some (D.lst xs, s.setFl n f (.val (.lst xs)))
      | _ => none) = some (d', s1) := g
    cases q : getF s.hp n f with
    | none => rw [q] at e'; cases e'
    | some sv =>
      rw [q] at e' g'
      cases sv with
      | own ys => cases e'; cases g'; rfl
      | lk ys => cases g'
      | val y => cases g'
  | ref n => exact absurd rfl (hr n)
  | _ => cases e
/-- a list that will be walked -/
theorem fix_lst {lk b : Bool} {x : D} {xs : List D} {v : V} (h : SR K cls w s σ H) (r : Rp K w σ H x v) (e : lview x s = some xs) (f : fixD lk x s = some (b, s1)) :
    ∃ w' a vs o, v = .ref a ∧ H a = some (.lst vs) ∧ Rvs K w' H xs vs ∧ w'.own a = some o ∧ o.fix = true ∧ o ≠ .tmp ∧ SR K cls w' s1 σ H ∧ ∀ w0 H0, Ext w0 H0 w H → New w0 x v → Ext w0 H0 w' H ∧ (b = true → UnL K cls w0 H0 w' σ H x) := by
  obtain ⟨a, vs, rfl, h2, h3⟩ := lview_ok h r e
  have nr : ∀ n, x ≠ .ref n := fun n z => by
    subst z
    cases f
  have frzd : ∀ p, frz x s = some p → (∀ w0 H0, Ext w0 H0 w H → New w0 x (.ref a) → True) → ∃ w', SR K cls w' p.2 σ H ∧ w'.own a = some .frz ∧ Rvs K w' H xs vs ∧ ∀ w0 H0, Ext w0 H0 w H → New w0 x (.ref a) → Ext w0 H0 w' H := fun p q _ => by
    obtain ⟨d', s2⟩ := p
    obtain ⟨w', k1, k2, k3⟩ := frz_ok h r q
    have z := frz_lview e nr q
    subst z
    unfold Rv at k2
    obtain ⟨a', vs', ea, k4, k5⟩ := k2
    cases ea
    have k6 := k4.2
    rw [h2] at k6
    cases k6
    exact ⟨w', k1, k4.1, k5, fun w0 H0 => k3 true w0 H0⟩
  have nwc : ∀ ys, x = .nw ys → ∃ w' a' vs' o, V.ref a = .ref a' ∧ H a' = some (.lst vs') ∧ Rvs K w' H xs vs' ∧ w'.own a' = some o ∧ o.fix = true ∧ o ≠ .tmp ∧ SR K cls w' s1 σ H ∧ ∀ w0 H0, Ext w0 H0 w H → New w0 x (.ref a) → Ext w0 H0 w' H ∧ (b = true → UnL K cls w0 H0 w' σ H x) := fun ys z => by
    subst z
    cases f
    obtain ⟨w', k1, k2, k3, k4⟩ := frzd (.lst ys, s) rfl fun _ _ _ _ => trivial
    exact ⟨w', a, vs, .frz, rfl, h2, k3, k2, rfl, (fun z => nomatch z), k1, fun w0 H0 e0 n => ⟨k4 w0 H0 e0 n, fun z => nomatch z⟩⟩
  have frzc : lk = false → (frz x s).map (fun p => (false, p.2)) = some (b, s1) → ∃ w' a' vs' o, V.ref a = .ref a' ∧ H a' = some (.lst vs') ∧ Rvs K w' H xs vs' ∧ w'.own a' = some o ∧ o.fix = true ∧ o ≠ .tmp ∧ SR K cls w' s1 σ H ∧ ∀ w0 H0, Ext w0 H0 w H → New w0 x (.ref a) → Ext w0 H0 w' H ∧ (b = true → UnL K cls w0 H0 w' σ H x) := fun _ z => by
    cases q : frz x s with
    | none => rw [q] at z; cases z
    | some p =>
      rw [q] at z
      cases z
      obtain ⟨w', k1, k2, k3, k4⟩ := frzd p q fun _ _ _ _ => trivial
      exact ⟨w', a, vs, .frz, rfl, h2, k3, k2, rfl, (fun z => nomatch z), k1, fun w0 H0 e0 n => ⟨k4 w0 H0 e0 n, fun z => nomatch z⟩⟩
  cases lk with
  | false =>
    cases x with
    | nw ys => exact nwc ys rfl
    | ref n => exact absurd rfl (nr n)
    | _ => exact frzc rfl f
  | true =>
    cases x with
    | nw ys => exact nwc ys rfl
    | ref n => exact absurd rfl (nr n)
    | lst ys =>
      cases e
      cases f
      have r' : Rv K w H (.lst xs) (.ref a) := r
      unfold Rv at r'
      obtain ⟨a', vs', ea, k4, k5⟩ := r'
      cases ea
      exact ⟨w, a, vs, .frz, rfl, h2, h3, k4.1, rfl, (fun z => nomatch z), h, fun w0 H0 e0 n => ⟨e0, fun z => nomatch z⟩⟩
    | sl i =>
      have f' : some ((lockD (.sl i) s).2, (lockD (.sl i) s).1) = some (b, s1) := f
      have el : lockD (.sl i) s = (match getS s i with
        | some (.own xs) => (s.setS i (some (.lk xs)), true)
        | _ => (s, false)) := rfl
      have e' : (getS s i).bind svList = some xs := e
      cases q : getS s i with
      | none => rw [q] at e'; cases e'
      | some sv =>
        obtain ⟨v', j1, j2⟩ := h.slots i _ (getS_of q)
        have r' : σ[i]? = some (some (.ref a)) := r
        rw [r'] at j1
        cases j1
        cases sv with
        | own ys =>
          rw [q] at e'
          cases e'
          rw [el, q] at f'
          cases f'
          obtain ⟨w', k1, k2, k3, k4⟩ := lock_sl (vs := vs) h q r'
          exact ⟨w', a, vs, .lks i, rfl, h2, h3.pre k3, k2, rfl, (fun z => nomatch z), k1, fun w0 H0 e0 n => ⟨(k4 w0 H0 e0).1, fun _ => (k4 w0 H0 e0).2⟩⟩
        | lk ys =>
          rw [q] at e'
          cases e'
          rw [el, q] at f'
          cases f'
          obtain ⟨a', vs', ea, k2, k3, k4⟩ := j2
          cases ea
          exact ⟨w, a, vs, .lks i, rfl, h2, h3, k2, rfl, (fun z => nomatch z), h, fun w0 H0 e0 n => ⟨e0, fun z => nomatch z⟩⟩
        | val y =>
          rw [q] at e'
          rw [el, q] at f'
          cases f'
          cases y with
          | lst ys =>
            cases e'
            have j2' : Rv K w H (.lst xs) (.ref a) := j2
            unfold Rv at j2'
            obtain ⟨a', vs', ea, k4, k5⟩ := j2'
            cases ea
            exact ⟨w, a, vs, .frz, rfl, h2, h3, k4.1, rfl, (fun z => nomatch z), h, fun w0 H0 e0 n => ⟨e0, fun z => nomatch z⟩⟩
          | _ => cases e'
    | fl n fl =>
      have f' : some ((lockD (.fl n fl) s).2, (lockD (.fl n fl) s).1) = some (b, s1) := f
      have el : lockD (.fl n fl) s = (match getF s.hp n fl with
        | some (.own xs) => (s.setFl n fl (.lk xs), true)
        | _ => (s, false)) := rfl
      have e' : (getF s.hp n fl).bind flList = some xs := e
      cases q : getF s.hp n fl with
      | none => rw [q] at e'; cases e'
      | some sv =>
        cases sv with
        | own ys =>
          rw [q] at e'
          cases e'
          rw [el, q] at f'
          cases f'
          obtain ⟨w', k1, k2, k3, k4⟩ := lock_fl h q r
          exact ⟨w', a, vs, .lkf n fl, rfl, h2, h3.pre k3, k2, rfl, (fun z => nomatch z), k1, fun w0 H0 e0 _ => ⟨(k4 w0 H0 e0).1, fun _ => (k4 w0 H0 e0).2⟩⟩
        | lk ys =>
          rw [q] at e'
          cases e'
          rw [el, q] at f'
          cases f'
          obtain ⟨C, fs, k1, k2⟩ := getF_some q
          obtain ⟨r0, y1, y2, dx, fvs, f1, f2, f3⟩ := h.hr.objs n _ k1
          obtain ⟨u, l1, l2⟩ := flds_get f2 k2
          obtain ⟨a', vs', rfl, r2, r3, r4⟩ := l2
          have ea : a' = a := by
            obtain ⟨r', C', dx', fs', u', q1, q2, q3, q4, q5⟩ := r
            rw [y1] at q1
            cases q1
            rw [f1] at q3
            cases q3
            rw [l1] at q4
            cases q4
            exact V.ref.inj (q5 ⟨a', rfl, .inr r2⟩)
          subst ea
          exact ⟨w, a', vs, .lkf n fl, rfl, h2, h3, r2, rfl, (fun z => nomatch z), h, fun w0 H0 e0 _ => ⟨e0, fun z => nomatch z⟩⟩
        | val y => rw [q] at e'; cases e'
    | _ => cases e
/-- a tuple, a text that will be walked -/
theorem fix_hard {lk b : Bool} {x : D} (h : x.hard = true) (f : fixD lk x s = some (b, s1)) : b = false ∧ s1 = s := by
  cases x with
  | nw ys => cases h
  | sl i => cases h
  | fl n f => cases h
  | ref n => cases f
  | _ => cases lk <;> (cases f; exact ⟨rfl, rfl⟩)
end
end MP
end
section
set_option maxRecDepth 100000
set_option maxHeartbeats 1000000
set_option autoImplicit false
/-! MPo: targets and walks, as the layer asks for them. -/
namespace MP
open PySem PySem.Spec PyProof.Rows L2
def Zno : XZ := fun _ _ _ _ _ _ => False
theorem takes_no {X : Cx} {K : PySem.W.Frag} {cls : Nat → Addr} : Takes X (WZ K cls Zno) := Takes.imp takes0 fun _ _ _ _ ⟨_, _, _, _, _, _, z⟩ => z
/-- all but these slots are as they were -/
def Only (is : List Nat) (σ σ' : L2.St) : Prop := σ'.length = σ.length ∧ ∀ i, i ∉ is → σ'[i]? = σ[i]?
theorem Only.refl {is : List Nat} {σ : L2.St} : Only is σ σ := ⟨rfl, fun _ _ => rfl⟩
theorem Only.trans {is js : List Nat} {σ σ1 σ2 : L2.St} (a : Only is σ σ1) (b : Only js σ1 σ2) : Only (is ++ js) σ σ2 :=
  ⟨b.1.trans a.1, fun i h => by
    rw [List.mem_append, not_or] at h
    exact (b.2 i h.2).trans (a.2 i h.1)⟩
theorem Only.set {i : Nat} {σ : L2.St} {v : Option V} : Only [i] σ (σ.set i v) := ⟨List.length_set, fun j h => List.getElem?_set_ne fun z => h (by simp [z])⟩
theorem wipe_ne {σ : L2.St} {j : Nat} : ∀ {vs : List Nat}, j ∉ vs → (wipe σ vs)[j]? = σ[j]?
  | [], _ => rfl
  | v :: vs, h => by
    rw [List.mem_cons, not_or] at h
    unfold wipe
    rw [List.getElem?_set_ne fun z => h.1 z.symm]
    exact wipe_ne h.2
theorem wipe_in {σ : L2.St} {j : Nat} : ∀ {vs : List Nat}, j ∈ vs → (wipe σ vs)[j]? = if j < σ.length then some none else none
  | v :: vs, h => by
    unfold wipe
    by_cases e : v = j
    · subst e
      by_cases hl : v < σ.length
      · rw [if_pos hl, List.getElem?_set_self (by rw [wipe_length]; exact hl)]
      · rw [if_neg hl, List.getElem?_eq_none (by rw [List.length_set, wipe_length]; omega)]
    · rw [List.getElem?_set_ne e]
      rcases List.mem_cons.mp h with z | z
      · exact absurd z.symm e
      · exact wipe_in z
theorem wipe_only {σ σ' : L2.St} {is vs : List Nat} (h : Only is σ σ') (hs : ∀ i, i ∈ is → i ∈ vs) : wipe σ' vs = wipe σ vs := by
  apply List.ext_getElem?
  intro j
  by_cases hj : j ∈ vs
  · rw [wipe_in hj, wipe_in hj, h.1]
  · rw [wipe_ne hj, wipe_ne hj]
    exact h.2 j fun z => hj (hs j z)
theorem wipe_wipe {σ : L2.St} {vs : List Nat} : wipe (wipe σ vs) vs = wipe σ vs := by
  apply List.ext_getElem?
  intro j
  by_cases hj : j ∈ vs
  · rw [wipe_in hj, wipe_in hj, wipe_length]
  · rw [wipe_ne hj]
theorem kill_get {is : List Nat} {s : MSt} {j : Nat} {sv : SV} (h : (kill is s).sl[j]? = some (some sv)) : j ∉ is ∧ s.sl[j]? = some (some sv) := by
  induction is with
  | nil => exact ⟨by simp, h⟩
  | cons i is ih =>
    rcases setS_get h with ⟨rfl, e⟩ | ⟨e, q⟩
    · cases e
    · obtain ⟨h1, h2⟩ := ih q
      exact ⟨by simp [e, h1], h2⟩
theorem kill_hp {is : List Nat} {s : MSt} : (kill is s).hp = s.hp := by
  induction is with
  | nil => rfl
  | cons i is ih => exact ih
theorem kill_len {is : List Nat} {s : MSt} : (kill is s).sl.length = s.sl.length := by
  induction is with
  | nil => rfl
  | cons i is ih =>
    show ((kill is s).sl.set i none).length = _
    rw [List.length_set]
    exact ih
section
variable (K : PySem.W.Frag) (cls : Nat → Addr) (Z : XZ) (F : Nat → List D → List HOb → CRes)
def PostA (tm : Bool) (is : List Nat) (r : Res Unit) (w0 : Wd) (H0 : Hp) (σ : L2.St) (Q : L2.St → Hp → Prop) : Prop :=
  match r with
  | .ok _ s => ∀ w' σ' H', ExtB tm w0 H0 w' H' → SR K cls w' s σ' H' → Only is σ σ' → Q σ' H'
  | .ex c fs s => ∀ w' σ' H', ExtB tm w0 H0 w' H' → SR K cls w' s σ' H' → Z c fs s w' σ' H'
  | .stuck => False
/-- a target's reading -/
def gT (t : T) : TG := fun v σ H Q => ∃ tm w0 H0 w s d, ExtB tm w0 H0 w H ∧ SR K cls w s σ H ∧ Rp K w σ H d v ∧ New w0 d v ∧ PostA K cls Z tm t.slots (asgT F t d s) w0 H0 σ Q
def gTs (ts : Ts) : TGs := fun vs σ H Q => ∃ tm w s ds, SR K cls w s σ H ∧ Rvs K w H ds vs ∧ PostA K cls Z tm ts.slots (asgTs F ts ds s) w H σ Q
end
section
variable {K : PySem.W.Frag} {cls : Nat → Addr} {Z : XZ} {F : Nat → List D → List HOb → CRes} {tm : Bool} {w w0 w1 w3 : Wd} {H H0 H1 H3 : Hp} {σ : L2.St} {s s1 : MSt} {α β : Type} {R : RelT α β} {is : List Nat} {Q : L2.St → Hp → Prop}
theorem PostA.bindG {r : Res α} {k : α → MSt → Res Unit} (h : PostA K cls Z tm is (r.bind k) w0 H0 σ Q) (e : ExtB tm w0 H0 w H) :
    PostG K cls Z R r w H σ (fun b H2 => ∃ w2 a s2, Ext w H w2 H2 ∧ SR K cls w2 s2 σ H2 ∧ R w H w2 σ H2 a b ∧ PostA K cls Z tm is (k a s2) w0 H0 σ Q) := by
  cases r with
  | ok a s => exact fun w' b H' e' sr rr => ⟨w', a, s, e', sr, rr, h⟩
  | ex c fs s => exact fun w' H' e' sr => h w' σ H' (e.trans e'.any) sr
  | stuck => exact h
theorem PostA.opt {o : Option α} {k : α → MSt → Res Unit} (h : PostA K cls Z tm is ((MP.opt o s).bind k) w0 H0 σ Q) : ∃ a, o = some a ∧ PostA K cls Z tm is (k a s) w0 H0 σ Q := by
  cases o with
  | none => exact h.elim
  | some a => exact ⟨a, rfl, h⟩
theorem PostA.opt2 {o : Option (α × MSt)} {k : α → MSt → Res Unit} (h : PostA K cls Z tm is ((MP.opt2 o).bind k) w0 H0 σ Q) : ∃ a s', o = some (a, s') ∧ PostA K cls Z tm is (k a s') w0 H0 σ Q := by
  cases o with
  | none => exact h.elim
  | some a => exact ⟨a.1, a.2, rfl, h⟩
theorem anti_ItR : Anti (ItR K cls) := ⟨fun e h => ⟨h.it, fun b w3 s3 H3 e3 sr => by
  obtain ⟨w4, k1, k2, k3, k4⟩ := h.un b w3 s3 H3 e3 sr
  exact ⟨w4, k1, e.trans k2, k3, k4⟩⟩⟩
end

/-! ### walks over a value of any kind -/
section
variable {X : Cx} {tg : Expr}
def iAny (K : PySem.W.Frag) (tl : TE) : TI := fun σ H R => tl σ H fun x H1 => (∃ a, x = .ref a ∧ (∃ xs, SqL K H1 a xs) ∧ R (Itl K a) H1) ∨ (∃ a, x = .ref a ∧ (∃ xs, SqT K H1 a xs) ∧ R (Itt K a) H1) ∨ ∃ z, x = .str z ∧ R (Its z) H1
theorem pi_any {l : Expr} {tl : TE} (hl : PE X l tl) : PI X tg l (iAny X.K tl) := by
  constructor
  intro pins s σ H R I h
  refine thn (hl.run pins s σ H _ I h) fun v s1 hq => ?_
  obtain ⟨x, H1, I1, r1, q1⟩ := hq
  have fr : FpOk X pins H1 s1.heap.objs.size := I1.fpOk (Nat.le_refl _) (I1.hok.fresh (Nat.le_refl _))
  rcases q1 with ⟨a, rfl, ⟨xs, hq⟩, q⟩ | ⟨a, rfl, ⟨xs, hq⟩, q⟩ | ⟨z, rfl, q⟩
  · cases r1
    obtain ⟨its, rv, p, hz⟩ := I1.list hq
    apply wpAny_pyIter_list p.isList
    have I2 : Inv X pins σ H1 { s1 with heap := s1.heap.push { cls := .type "list_iterator", data := .fields #[.ref a, .int 0 0] } } := I1.kept (t' := s1.toks) fun b o e => Heap.get?_push_of_some _ e
    refine ⟨s1.heap.objs.size, [s1.heap.objs.size], _, _, H1, rfl, I2, turn_list a _, ⟨_, Heap.get?_push_size _ rfl, rfl, rfl⟩, fun b hb => ?_, q⟩
    rw [List.mem_singleton.mp hb]
    exact fr
  · cases r1
    obtain ⟨its, rv, p, hz⟩ := I1.tuple hq
    apply wpAny_pyIter_tuple (show s1.heap.IsTuple a its.toArray from p)
    have I2 : Inv X pins σ H1 { s1 with heap := s1.heap.push { cls := .type "tuple_iterator", data := .fields #[.ref a, .int 0 0] } } := I1.kept (t' := s1.toks) fun b o e => Heap.get?_push_of_some _ e
    refine ⟨s1.heap.objs.size, [s1.heap.objs.size], _, _, H1, rfl, I2, turn_tuple a _, ⟨_, Heap.get?_push_size _ rfl, rfl, rfl⟩, fun b hb => ?_, q⟩
    rw [List.mem_singleton.mp hb]
    exact fr
  · obtain ⟨t, rfl⟩ := r1
    cases ha : z.cps.all (· < 128)
    · exact wpAny_pyIter_wide ha (pi_one (tk := s1.toks) I1 _ (turn_str _ z t "str_iterator" (.inr rfl)) ⟨_, Heap.get?_push_size _ rfl, rfl, rfl⟩ q)
    · exact wpAny_pyIter_ascii ha (pi_one (tk := s1.toks) I1 _ (turn_str _ z t "str_ascii_iterator" (.inl rfl)) ⟨_, Heap.get?_push_size _ rfl, rfl, rfl⟩ q)
def iEnumA (K : PySem.W.Frag) (ta : TE) : TI := fun σ H R => ta σ H fun x H1 => (∃ a, x = .ref a ∧ (∃ xs, SqL K H1 a xs) ∧ R (Ite K a) H1) ∨ ∃ a, x = .ref a ∧ (∃ xs, SqT K H1 a xs) ∧ R (IteT K a) H1
def enumQ (K : PySem.W.Frag) (R : It → Hp → Prop) : List V → Hp → Prop
  | [x], H1 => (∃ a, x = .ref a ∧ (∃ xs, SqL K H1 a xs) ∧ R (Ite K a) H1) ∨ ∃ a, x = .ref a ∧ (∃ xs, SqT K H1 a xs) ∧ R (IteT K a) H1
  | _, _ => False
theorem pi_enumA {e : Expr} {ta : TE} {p pos tpos : Pos} {elts : List Expr} {kk : Nat} (hg : Gl X "enumerate") (hm : X.mg "enumerate" = none) (ha : PE X e ta) (hns : noStar e = true) :
    PI X (.Tuple elts kk tpos) (.Call (.Name "enumerate" p) [e] [] pos) (iEnumA X.K ta) := by
  have hs : starEach [e] X.env = [(false, eval e X.env)] := by
    cases e <;> first
      | rfl
      | cases hns
  have pa : PA X [e] (tCons ta tNil) := pa_cons ha pa_nil (by rw [hs]; rfl)
  constructor
  intro pins s σ H R I h
  have h' : tCons ta tNil σ H (enumQ X.K R) := h
  refine Call_ (ld_blt I hg hm boot_enumerate (PyProof.Rows.callWith_type1 (thn (pa.run pos pins s σ H _ I h') fun us s1 hq => ?_) hs rfl))
  obtain ⟨vs, H1, I1, r1, q0⟩ := hq
  cases vs with
  | nil => exact q0.elim
  | cons x ys =>
    cases ys with
    | cons y ys => exact q0.elim
    | nil =>
      have q1 : (∃ a, x = .ref a ∧ (∃ xs, SqL X.K H1 a xs) ∧ R (Ite X.K a) H1) ∨ ∃ a, x = .ref a ∧ (∃ xs, SqT X.K H1 a xs) ∧ R (IteT X.K a) H1 := q0
      cases r1 with
      | cons r rr =>
        cases rr
        have fr : ∀ b, b ∈ [s1.heap.objs.size + 1, s1.heap.objs.size] → FpOk X pins H1 b := fun b hb => by
          have e' : b = s1.heap.objs.size + 1 ∨ b = s1.heap.objs.size := by simpa using hb
          have hle : s1.heap.objs.size ≤ b := by
            rcases e' with z | z
            · rw [z]; exact Nat.le_add_right _ _
            · rw [z]; exact Nat.le_refl _
          exact I1.fpOk hle (I1.hok.fresh hle)
        rcases q1 with ⟨a, rfl, ⟨xs, hq⟩, q⟩ | ⟨a, rfl, ⟨xs, hq⟩, q⟩
        · cases r
          obtain ⟨its, rv, p', hz⟩ := I1.list hq
          refine call_enumerate_list p'.isList fun h' he hit hsz hk => wpAny_pyIter_enum he ?_
          have I2 : Inv X pins σ H1 { s1 with heap := h' } := I1.kept (t' := s1.toks) hk
          exact ⟨s1.heap.objs.size + 1, [s1.heap.objs.size + 1, s1.heap.objs.size], _, _, H1, rfl, I2, turn_enum a (s1.heap.objs.size + 1) s1.heap.objs.size, ⟨⟨.none, he⟩, hit, Nat.succ_ne_self _⟩, fr, q⟩
        · cases r
          obtain ⟨its, rv, p', hz⟩ := I1.tuple hq
          have al : a < s1.heap.objs.size := by
            obtain ⟨o, ho, _⟩ := id p'
            exact Heap.lt_size ho
          refine call_enum1 (begins_tuple a its.toArray) (show s1.heap.IsTuple a its.toArray from p') fun h' he hob hk => wpAny_pyIter_enum he ?_
          have I2 : Inv X pins σ H1 { s1 with heap := h' } := I1.kept (t' := s1.toks) hk
          exact ⟨s1.heap.objs.size + 1, [s1.heap.objs.size + 1, s1.heap.objs.size], _, _, H1, rfl, I2, turn_enumT a (s1.heap.objs.size + 1) s1.heap.objs.size (Nat.ne_of_lt al) (Nat.ne_of_lt (Nat.lt_succ_of_lt al)), ⟨⟨.none, he⟩, ⟨_, hob, rfl, rfl⟩, Nat.succ_ne_self _⟩, fr, q⟩
end
end MP
end
section
set_option maxRecDepth 100000
set_option maxHeartbeats 1000000
set_option autoImplicit false
/-! MPp: expressions: one step each. -/
namespace MP
open PySem PySem.Spec PyProof.Rows L2

def RP : RelT (Option Int) (Option Int) := fun _ _ _ _ _ a b => a = b
theorem anti_RP : Anti RP := ⟨fun _ h => h⟩
section
variable (K : PySem.W.Frag) (cls : Nat → Addr) (Z : XZ) (F : Nat → List D → List HOb → CRes)
abbrev rE (e : E) : TE := tG K cls Z (RD K) (evE F e)
abbrev rC (c : C) : TT := tG K cls Z RB (evC F c)
abbrev rCs (k : Bool) (c : Cs) : TT := tG K cls Z RB (evCs F k c)
abbrev rEs (es : Es) : TA := tG K cls Z (RDs K) (evEs F es)
abbrev rFs (es : Es) : TA := tG K cls Z (RVs K) (evFs F es)
abbrev rPt (p : P) : TO := tG K cls Z RP (evP F p)
abbrev rI (lk : Bool) (it : I) : TI := tG K cls Z (ItR K cls) (evI F lk it)
end
section
variable {X : Cx} {cls : Nat → Addr} {Z : XZ} {F : Nat → List D → List HOb → CRes} {pos : Pos} {w w0 : Wd} {H H0 : Hp} {σ : L2.St} {s : MSt}
abbrev SE (X : Cx) (cls : Nat → Addr) (Z : XZ) (F : Nat → List D → List HOb → CRes) (pe : Expr) (e : E) : Prop := PE X pe (rE X.K cls Z F e)
abbrev SC (X : Cx) (cls : Nat → Addr) (Z : XZ) (F : Nat → List D → List HOb → CRes) (pe : Expr) (c : C) : Prop := PT X pe (rC X.K cls Z F c)
/-! ### leaves -/
theorem st_non {j} : SE X cls Z F (.Constant .none j pos) .non := PE.weak pe_non fun σ H Q ⟨w, s, sr, po⟩ => PostG.now (R := RD X.K) (a := D.non) (by unfold evE at po; exact po) sr rd_non
theorem st_bl {j b} : SE X cls Z F (.Constant (.bool b) j pos) (.bl b) := PE.weak pe_bl fun σ H Q ⟨w, s, sr, po⟩ => PostG.now (R := RD X.K) (a := D.bl b) (by unfold evE at po; exact po) sr rd_bl
theorem st_int {j i} : SE X cls Z F (.Constant (.int i) j pos) (.int i) := PE.weak pe_int fun σ H Q ⟨w, s, sr, po⟩ => PostG.now (R := RD X.K) (a := D.int i) (by unfold evE at po; exact po) sr rd_int
theorem st_str {j z} : SE X cls Z F (.Constant (.str z) j pos) (.str z) := PE.weak pe_str fun σ H Q ⟨w, s, sr, po⟩ => PostG.now (R := RD X.K) (a := D.str z) (by unfold evE at po; exact po) sr rd_str
theorem readVar_ok {i : Nat} {d : D} (sr : SR X.K cls w s σ H) (e : readVar i s = some d) : ∃ v, σ[i]? = some (some v) ∧ RD X.K w H w σ H d v := by
  unfold readVar at e
  cases g : getS s i with
  | none => rw [g] at e; cases e
  | some sv =>
    rw [g] at e
    cases e
    obtain ⟨v, h1, h2⟩ := sr.slots i sv (getS_of g)
    refine ⟨v, h1, ?_⟩
    cases sv with
    | val x => exact rd_of h2
    | own xs => exact ⟨h1, trivial⟩
    | lk xs => exact ⟨h1, trivial⟩
theorem st_var {i : Nat} {x : Str} (hN : X.N[i]? = some x) (hv : Vis X.env.scope x) (hd : (x == ("__debug__" : Str)) = false) (hcd : (x == ("__classdict__" : Str)) = false) : SE X cls Z F (.Name x pos) (.var i) :=
  PE.weak (pe_var hN hv hd hcd) fun σ H Q ⟨w, s, sr, po⟩ => by
    unfold evE at po
    obtain ⟨d, e, po⟩ := PostG.opt1 po
    obtain ⟨v, h1, h2⟩ := readVar_ok sr e
    exact ⟨v, h1, PostG.now po sr h2⟩
theorem st_glob {x : Str} {d : D} {v : V} {u : Value} (hg : Gl X x) (hm : X.mg x = some u) (r : RelV v u) (hd : (x == ("__debug__" : Str)) = false) (hs : scalV d = some v) : SE X cls Z F (.Name x pos) (.glob x d) :=
  PE.weak (pe_glob hg hm r hd) fun σ H Q ⟨w, s, sr, po⟩ => by
    unfold evE at po
    refine PostG.now po sr ?_
    cases d with
    | non => cases hs; exact rd_non
    | bl b => cases hs; exact rd_bl
    | int i => cases hs; exact rd_int
    | str z => cases hs; exact rd_str
    | _ => cases hs
/-! ### operators -/
variable {pa pb pc pd : Expr} {a b d : E} {c : C}
theorem st_bin {op : Operator} (ha : SE X cls Z F pa a) (hb : SE X cls Z F pb b) : SE X cls Z F (.BinOp pa op pb pos) (.bin op a b) :=
  PE.weak (pe_op (opr_ok op) ha hb) fun σ H Q ⟨w, s, sr, po⟩ => by
    unfold evE at po
    exact ⟨w, s, sr, (PostG.bind anti_RD po).imp fun x H1 ⟨w1, dx, s1, e1, sr1, r1, po1⟩ => ⟨w1, s1, sr1, (PostG.bind anti_RD po1).imp fun y H2 ⟨w2, dy, s2, e2, sr2, r2, po2⟩ => by
      obtain ⟨z, ez, po3⟩ := PostG.opt1 po2
      exact binD_ok sr2 (r1.1.ext e2) r2.1 ez fun w' v H' e' sr' rd => po3 w' v H' e' sr' rd⟩⟩
theorem st_neg (ha : SE X cls Z F pa a) : SE X cls Z F (.UnaryOp .USub pa pos) (.neg a) :=
  PE.weak (pe_un un_neg ha) fun σ H Q ⟨w, s, sr, po⟩ => by
    unfold evE at po
    exact ⟨w, s, sr, (PostG.bind anti_RD po).imp fun x H1 ⟨w1, dx, s1, e1, sr1, r1, po1⟩ => by
      obtain ⟨z, ez, po3⟩ := PostG.opt1 po1
      cases dx with
      | int i =>
        cases ez
        rw [rp_int r1.1]
        exact ⟨i, rfl, PostG.now po3 sr1 rd_int⟩
      | _ => cases ez⟩
theorem st_not (ha : SE X cls Z F pa a) : SE X cls Z F (.UnaryOp .Not pa pos) (.not (.of a)) :=
  PE.weak (pe_notT ha) fun σ H Q ⟨w, s, sr, po⟩ => by
    unfold evE evC at po
    have po' : PostG X.K cls Z (RD X.K) ((evE F a s).bind fun x s1 => (opt (truth x s1) s1).bind fun b s1 => .ok (.bl (!b)) s1) w H σ Q := by
      cases q : evE F a s with
      | ok x s1 => rw [q] at po; exact po
      | ex c fs s1 => rw [q] at po; exact po
      | stuck => rw [q] at po; exact po
    exact ⟨w, s, sr, (PostG.bind anti_RD po').imp fun x H1 ⟨w1, dx, s1, e1, sr1, r1, po1⟩ => by
      obtain ⟨k, ek, po3⟩ := PostG.opt po1
      exact ⟨k, truth_ok sr1 r1.1 ek, PostG.now po3 sr1 rd_bl⟩⟩
theorem st_cmp {op : CmpOp} (hu : X.A.units + 65 < cLine) (ha : SE X cls Z F pa a) (hb : SE X cls Z F pb b) (hm : behindInMarks op pb = false) : SE X cls Z F (.Compare pa [op] [pb] pos) (.cmp op a b) :=
  PE.weak (pe_cmpR (cmpr_ok hu op) ha hb hm) fun σ H Q ⟨w, s, sr, po⟩ => by
    unfold evE at po
    exact ⟨w, s, sr, (PostG.bind anti_RD po).imp fun x H1 ⟨w1, dx, s1, e1, sr1, r1, po1⟩ => ⟨w1, s1, sr1, (PostG.bind anti_RD po1).imp fun y H2 ⟨w2, dy, s2, e2, sr2, r2, po2⟩ => by
      obtain ⟨k, ek, po3⟩ := PostG.opt po2
      exact cmpD_ok sr2 (r1.1.ext e2) r2.1 ek (PostG.now po3 sr2 rd_bl)⟩⟩
/-- a test's outcome from its value's -/
theorem of_val {r : MSt → Res D} {Q : Bool → Hp → Prop} {k : D → MSt → Res Bool} {σ : L2.St} {H : Hp} (sr : SR X.K cls w s σ H) (po : PostG X.K cls Z RB ((r s).bind k) w H σ Q) :
    tG X.K cls Z (RD X.K) r σ H (fun x H1 => ∃ w1 d s1, Ext w H w1 H1 ∧ SR X.K cls w1 s1 σ H1 ∧ RD X.K w H w1 σ H1 d x ∧ PostG X.K cls Z RB (k d s1) w1 H1 σ Q) := ⟨w, s, sr, PostG.bind anti_RB po⟩
theorem st_tcmp {op : CmpOp} (hu : X.A.units + 65 < cLine) (ha : SE X cls Z F pa a) (hb : SE X cls Z F pb b) (hm : behindInMarks op pb = false) : SC X cls Z F (.Compare pa [op] [pb] pos) (.of (.cmp op a b)) :=
  PT.weak (pt_cmpR (cmpr_ok hu op) ha hb hm) fun σ H Q ⟨w, s, sr, po⟩ => by
    unfold evC evE at po
    have po' : PostG X.K cls Z RB ((evE F a s).bind fun x s1 => (evE F b s1).bind fun y s2 => (opt (cmpD op x y s2) s2).bind fun k s3 => .ok k s3) w H σ Q := by
      cases q : evE F a s with
      | ok x s1 =>
        rw [q] at po
        simp only [bind_ok] at po ⊢
        cases q2 : evE F b s1 with
        | ok y s2 =>
          rw [q2] at po
          simp only [bind_ok] at po ⊢
          cases q3 : cmpD op x y s2 with
          | none => rw [q3] at po; exact po
          | some k => rw [q3] at po; exact po
        | ex c fs s2 => rw [q2] at po; exact po
        | stuck => rw [q2] at po; exact po
      | ex c fs s1 => rw [q] at po; exact po
      | stuck => rw [q] at po; exact po
    exact ⟨w, s, sr, (PostG.bind anti_RB po').imp fun x H1 ⟨w1, dx, s1, e1, sr1, r1, po1⟩ => ⟨w1, s1, sr1, (PostG.bind anti_RB po1).imp fun y H2 ⟨w2, dy, s2, e2, sr2, r2, po2⟩ => by
      obtain ⟨k, ek, po3⟩ := PostG.opt po2
      exact cmpD_ok sr2 (r1.1.ext e2) r2.1 ek ⟨k, rfl, PostG.now po3 sr2 rfl⟩⟩⟩
theorem st_chain {o1 o2 : CmpOp} (hu : X.A.units + 65 < cLine) (ha : SE X cls Z F pa a) (hb : SE X cls Z F pb b) (hd : SE X cls Z F pd d) (hm : lastMarks [o1, o2] [pb, pd] = false) : SE X cls Z F (.Compare pa [o1, o2] [pb, pd] pos) (.chain o1 o2 a b d) :=
  PE.weak (pe_chain (cmpr_ok hu o1) (cmpr_ok hu o2) ha hb hd hm) fun σ H Q ⟨w, s, sr, po⟩ => by
    unfold evE at po
    exact ⟨w, s, sr, (PostG.bind anti_RD po).imp fun x H1 ⟨w1, dx, s1, e1, sr1, r1, po1⟩ => ⟨w1, s1, sr1, (PostG.bind anti_RD po1).imp fun y H2 ⟨w2, dy, s2, e2, sr2, r2, po2⟩ => by
      obtain ⟨k, ek, po3⟩ := PostG.opt po2
      refine cmpD_ok sr2 (r1.1.ext e2) r2.1 ek ⟨k, rfl, ?_⟩
      cases k with
      | false =>
        simp only [Bool.false_eq_true, if_false] at po3 ⊢
        exact PostG.now po3 sr2 rd_bl
      | true =>
        simp only [if_true] at po3 ⊢
        exact ⟨w2, s2, sr2, (PostG.bind anti_RD po3).imp fun z H3 ⟨w3, dz, s3, e3, sr3, r3, po4⟩ => by
          obtain ⟨k, ek, po5⟩ := PostG.opt po4
          exact cmpD_ok sr3 (r2.1.ext e3) r3.1 ek (PostG.now po5 sr3 rd_bl)⟩⟩⟩
theorem st_tchain {o1 o2 : CmpOp} (hu : X.A.units + 65 < cLine) (ha : SE X cls Z F pa a) (hb : SE X cls Z F pb b) (hd : SE X cls Z F pd d) (hm : lastMarks [o1, o2] [pb, pd] = false) : SC X cls Z F (.Compare pa [o1, o2] [pb, pd] pos) (.of (.chain o1 o2 a b d)) :=
  PT.weak (pt_chain (cmpr_ok hu o1) (cmpr_ok hu o2) ha hb hd hm) fun σ H Q ⟨w, s, sr, po⟩ => by
    unfold evC at po
    have po' : PostG X.K cls Z RB ((evE F (.chain o1 o2 a b d) s).bind fun x s1 => opt (truth x s1) s1) w H σ Q := po
    have v := PostG.bind (R := RD X.K) anti_RB po'
    unfold evE at v
    exact ⟨w, s, sr, (PostG.bind anti_RD v).imp fun x H1 ⟨w1, dx, s1, e1, sr1, r1, po1⟩ => ⟨w1, s1, sr1, (PostG.bind anti_RD po1).imp fun y H2 ⟨w2, dy, s2, e2, sr2, r2, po2⟩ => by
      obtain ⟨k, ek, po3⟩ := PostG.opt po2
      refine cmpD_ok sr2 (r1.1.ext e2) r2.1 ek ⟨k, rfl, ?_⟩
      have fin : ∀ {w' : Wd} {H' : Hp} {s' : MSt} {k : Bool}, SR X.K cls w' s' σ H' → PostG X.K cls Z (RD X.K) (.ok (.bl k) s') w' H' σ (fun b H1 => ∃ w1 a s1, Ext w H w1 H1 ∧ SR X.K cls w1 s1 σ H1 ∧ RD X.K w H w1 σ H1 a b ∧ PostG X.K cls Z RB (opt (truth a s1) s1) w1 H1 σ Q) → ∃ k', V.bl k = V.bl k' ∧ Q k' H' := fun {w' H' s' k} sr' pk => by
        obtain ⟨w1, a, s1, x1, x2, x3, x4⟩ := PostG.now pk sr' rd_bl
        refine ⟨k, rfl, ?_⟩
        have x3' := x3.1
        cases a with
        | bl k2 =>
          have z := rp_bl x3'
          cases z
          exact PostG.now x4 x2 rfl
        | non => have z := rp_non x3'; cases z
        | int i => have z := rp_int x3'; cases z
        | str t => have z := rp_str x3'; cases z
        | nw xs => obtain ⟨_, _, z, _⟩ := x3'; cases z
        | tup xs => obtain ⟨_, _, z, _⟩ := rp_tup x3'; cases z
        | lst xs =>
          have x3' : Rv X.K w1 H' (.lst xs) _ := x3'
          unfold Rv at x3'
          obtain ⟨_, _, z, _⟩ := x3'; cases z
        | ref n =>
          have x3' : Rv X.K w1 H' (.ref n) _ := x3'
          unfold Rv at x3'
          obtain ⟨_, _, z⟩ := x3'; cases z
        | scr n =>
          have x3' : Rv X.K w1 H' (.scr n) _ := x3'
          unfold Rv at x3'
          obtain ⟨_, z, _⟩ := x3'; cases z
        | sl i =>
          obtain ⟨k3, e3, po3⟩ := PostG.opt1 x4
          have q := truth_ok x2 x3' e3
          have q' : k = k3 := by simpa [TruV] using q.symm
          subst q'
          exact PostG.now po3 x2 rfl
        | fl n f =>
          obtain ⟨k3, e3, po3⟩ := PostG.opt1 x4
          have q := truth_ok x2 x3' e3
          have q' : k = k3 := by simpa [TruV] using q.symm
          subst q'
          exact PostG.now po3 x2 rfl
      cases k with
      | false =>
        simp only [Bool.false_eq_true, if_false] at po3 ⊢
        exact fin sr2 po3
      | true =>
        simp only [if_true] at po3 ⊢
        exact ⟨w2, s2, sr2, (PostG.bind anti_RD po3).imp fun z H3 ⟨w3, dz, s3, e3, sr3, r3, po4⟩ => by
          obtain ⟨k, ek, po5⟩ := PostG.opt po4
          exact cmpD_ok sr3 (r2.1.ext e3) r3.1 ek (fin sr3 po5)⟩⟩⟩
end
end MP
end
section
set_option maxRecDepth 100000
set_option maxHeartbeats 1000000
set_option autoImplicit false
/-! MPq: expressions: more steps. -/
namespace MP
open PySem PySem.Spec PyProof.Rows L2
section
variable {X : Cx} {cls : Nat → Addr} {Z : XZ} {F : Nat → List D → List HOb → CRes} {pos : Pos} {w w0 : Wd} {H H0 : Hp} {σ : L2.St} {s : MSt}
variable {pa pb pc pd : Expr} {a b d : E} {c : C} {ps : List Expr} {es : Es}
/-! ### and, or -/
def opB (k : Bool) : BoolOp := if k then .And else .Or
theorem st_bool1 {k : Bool} {t : TE} (h : PE X pa t) : PE X (.BoolOp (opB k) [pa] pos) t := pe_one h
theorem st_bool {k : Bool} {r : MSt → Res D} (ha : SE X cls Z F pa a) (hb : PE X (.BoolOp (opB k) (pb :: ps) pos) (tG X.K cls Z (RD X.K) (evBool F k es r))) :
    PE X (.BoolOp (opB k) (pa :: pb :: ps) pos) (tG X.K cls Z (RD X.K) (evBool F k (.cons a es) r)) := by
  have key : ∀ σ H Q, tG X.K cls Z (RD X.K) (evBool F k (.cons a es) r) σ H Q → rE X.K cls Z F a σ H fun x H1 => ∃ b, TruV X.K x H1 b ∧ if (b == k) = true then tG X.K cls Z (RD X.K) (evBool F k es r) σ H1 Q else Q x H1 := fun σ H Q ⟨w, s, sr, po⟩ => by
    unfold evBool at po
    exact ⟨w, s, sr, (PostG.bind2 anti_RD po ExtB.refl).imp fun x H1 ⟨w1, dx, s1, e1, sr1, r1, po1⟩ => by
      obtain ⟨b, eb, po2⟩ := PostG.opt po1
      refine ⟨b, truth_ok sr1 r1.1 eb, ?_⟩
      split at po2
      · rename_i h
        rw [if_pos h]
        exact ⟨w1, s1, sr1, PostG.later anti_RD e1 po2⟩
      · rename_i h
        rw [if_neg h]
        exact po2 w1 x H1 e1 sr1 r1⟩
  cases k with
  | true =>
    refine PE.weak (pe_andT ha hb) fun σ H Q q => ?_
    refine tG.imp (key σ H Q q) fun x H1 ⟨b, hb, q⟩ => ⟨b, hb, ?_⟩
    cases b <;> exact q
  | false =>
    refine PE.weak (pe_orT ha hb) fun σ H Q q => ?_
    refine tG.imp (key σ H Q q) fun x H1 ⟨b, hb, q⟩ => ⟨b, hb, ?_⟩
    cases b <;> exact q
theorem st_ite (ht : SC X cls Z F pc c) (ha : SE X cls Z F pa a) (hb : SE X cls Z F pb b) : SE X cls Z F (.IfExp pc pa pb pos) (.ite c a b) :=
  PE.weak (pe_ifExp ht ha hb) fun σ H Q ⟨w, s, sr, po⟩ => by
    unfold evE at po
    exact ⟨w, s, sr, (PostG.bind anti_RD po).imp fun k H1 ⟨w1, k', s1, e1, sr1, r1, po1⟩ => by
      have r1' : k' = k := r1
      subst r1'
      cases k' with
      | true => exact ⟨w1, s1, sr1, po1⟩
      | false => exact ⟨w1, s1, sr1, po1⟩⟩
theorem plain_ix {e : Expr} (h : noSlc e = true) : PlainIx e := by
  cases e <;> first
    | exact fun _ _ => rfl
    | cases h
theorem st_ix (ha : SE X cls Z F pa a) (hb : SE X cls Z F pb b) (hp : noSlc pb = true) : SE X cls Z F (.Subscript pa pb pos) (.ix a b) :=
  PE.weak (pe_ix ix_seq ha hb (plain_ix hp)) fun σ H Q ⟨w, s, sr, po⟩ => by
    unfold evE at po
    exact ⟨w, s, sr, (PostG.bind anti_RD po).imp fun x H1 ⟨w1, dx, s1, e1, sr1, r1, po1⟩ => ⟨w1, s1, sr1, (PostG.bind anti_RD po1).imp fun y H2 ⟨w2, dy, s2, e2, sr2, r2, po2⟩ => by
      obtain ⟨z, ez, po3⟩ := PostG.opt1 po2
      exact ixD_ok sr2 (r1.1.ext e2) r2.1 ez fun v rv => PostG.now po3 sr2 (rd_of rv)⟩⟩
/-! ### slices -/
abbrev SP0 (X : Cx) (cls : Nat → Addr) (Z : XZ) (F : Nat → List D → List HOb → CRes) (pe : Option Expr) (p : P) : Prop := PO X pe (rPt X.K cls Z F p)
theorem st_absent : SP0 X cls Z F none .absent := PO.weak po_none fun σ H Q ⟨w, s, sr, po⟩ => by
  unfold evP at po
  exact PostG.now (R := RP) po sr rfl
theorem st_part (ha : SE X cls Z F pa a) : SP0 X cls Z F (some pa) (.of a) := PO.weak (po_some ha) fun σ H Q ⟨w, s, sr, po⟩ => by
  unfold evP at po
  exact ⟨w, s, sr, (PostG.bind anti_RP po).imp fun x H1 ⟨w1, dx, s1, e1, sr1, r1, po1⟩ => by
    obtain ⟨z, ez, po2⟩ := PostG.opt1 po1
    cases dx with
    | int i =>
      cases ez
      rw [rp_int r1.1]
      exact ⟨i, rfl, PostG.now po2 sr1 rfl⟩
    | _ => cases ez⟩
variable {lo hi : P} {plo phi : Option Expr} {p2 : Pos}
theorem st_slc (ha : SE X cls Z F pa a) (hl : SP0 X cls Z F plo lo) (hh : SP0 X cls Z F phi hi) : SE X cls Z F (.Subscript pa (.Slice plo phi none p2) pos) (.slc a lo hi) :=
  PE.weak (pe_slice slc_ok ha hl hh) fun σ H Q ⟨w, s, sr, po⟩ => by
    unfold evE at po
    exact ⟨w, s, sr, (PostG.bind anti_RD po).imp fun x H1 ⟨w1, dx, s1, e1, sr1, r1, po1⟩ => ⟨w1, s1, sr1, (PostG.bind anti_RD po1).imp fun l H2 ⟨w2, dl, s2, e2, sr2, r2, po2⟩ => ⟨w2, s2, sr2, (PostG.bind anti_RD po2).imp fun h H3 ⟨w3, dh, s3, e3, sr3, r3, po3⟩ => by
      obtain ⟨z, ez, po4⟩ := PostG.opt1 po3
      have r2' : dl = l := r2
      have r3' : dh = h := r3
      subst r2' r3'
      exact slcD_ok sr3 (r1.1.ext (e2.trans e3)) ez fun w' v H' e' sr' rd => po4 w' v H' e' sr' rd⟩⟩⟩
/-! ### lists of arguments -/
abbrev SEs (X : Cx) (cls : Nat → Addr) (Z : XZ) (F : Nat → List D → List HOb → CRes) (ps : List Expr) (es : Es) : Prop := PA X ps (rEs X.K cls Z F es)
abbrev SFs (X : Cx) (cls : Nat → Addr) (Z : XZ) (F : Nat → List D → List HOb → CRes) (ps : List Expr) (es : Es) : Prop := PA X ps (rFs X.K cls Z F es)
theorem star_of {e : Expr} {es : List Expr} {env : Env} (h : noStar e = true) : starEach (e :: es) env = (false, eval e env) :: starEach es env := by
  cases e <;> first
    | rfl
    | cases h
theorem st_enil : SEs X cls Z F [] .nil := PA.weak pa_nil fun σ H Q ⟨w, s, sr, po⟩ => by
  unfold evEs at po
  exact PostG.now (R := RDs X.K) po sr rfl
theorem st_econs (ha : SE X cls Z F pa a) (hs : SEs X cls Z F ps es) (hn : noStar pa = true) : SEs X cls Z F (pa :: ps) (.cons a es) :=
  PA.weak (pa_cons ha hs (star_of hn)) fun σ H Q ⟨w, s, sr, po⟩ => by
    unfold evEs at po
    exact ⟨w, s, sr, (PostG.bind anti_RDs po).imp fun x H1 ⟨w1, dx, s1, e1, sr1, r1, po1⟩ => ⟨w1, s1, sr1, (PostG.bind anti_RDs po1).imp fun xs H2 ⟨w2, dxs, s2, e2, sr2, r2, po2⟩ =>
      PostG.now po2 sr2 ⟨x, xs, rfl, r1.1.ext e2, r2⟩⟩⟩
theorem st_fnil : SFs X cls Z F [] .nil := PA.weak pa_nil fun σ H Q ⟨w, s, sr, po⟩ => by
  unfold evFs at po
  exact PostG.now (R := RVs X.K) po sr Rvs.mk0
theorem st_fcons (ha : SE X cls Z F pa a) (hs : SFs X cls Z F ps es) (hn : noStar pa = true) : SFs X cls Z F (pa :: ps) (.cons a es) :=
  PA.weak (pa_cons ha hs (star_of hn)) fun σ H Q ⟨w, s, sr, po⟩ => by
    unfold evFs at po
    exact ⟨w, s, sr, (PostG.bind2 anti_RD po ExtB.refl).imp fun x H1 ⟨w1, dx, s1, e1, sr1, r1, po1⟩ => ⟨w1, s1, sr1, (PostG.bind2 anti_RVs po1 e1).imp fun xs H2 ⟨w2, dxs, s2, e2, sr2, r2, po2⟩ => by
      obtain ⟨y, s3, ey, po3⟩ := PostG.opt2 po2
      obtain ⟨w3, k1, k2, k3, _, k4⟩ := frz_okP sr2 (r1.1.ext e2) ey
      exact po3 w3 (x :: xs) H2 (k4 true w H (e1.trans e2) r1.2) k1 (Rvs.mk k2 (Rvs.pre k3 r2))⟩⟩
theorem st_tup {j} (h : SFs X cls Z F ps es) : SE X cls Z F (.Tuple ps j pos) (.tup es) := PE.weak (pe_tup h) fun σ H Q ⟨w, s, sr, po⟩ => by
  unfold evE at po
  exact ⟨w, s, sr, (PostG.bind anti_RD po).imp fun vs H1 ⟨w1, ds, s1, e1, sr1, r1, po1⟩ => by
    have r1' : Rvs X.K w1 H1 ds vs := r1
    split at po1
    · rename_i hz
      exact ⟨by rw [r1'.length]; exact hz, new_tup sr1 r1' fun w' v H' e' sr' rd => po1 w' v H' e' sr' rd⟩
    · exact po1.elim⟩
theorem st_lst (h : SFs X cls Z F ps es) : SE X cls Z F (.List ps pos) (.lst es) := PE.weak (pe_lst h) fun σ H Q ⟨w, s, sr, po⟩ => by
  unfold evE at po
  exact ⟨w, s, sr, (PostG.bind anti_RD po).imp fun vs H1 ⟨w1, ds, s1, e1, sr1, r1, po1⟩ => by
    have r1' : Rvs X.K w1 H1 ds vs := r1
    split at po1
    · rename_i hz
      exact ⟨by rw [r1'.length]; exact hz, new_lst sr1 r1' fun w' v H' e' sr' rd => po1 w' v H' e' sr' rd⟩
    · exact po1.elim⟩
/-! ### new objects -/
def Wd.add (w : Wd) (p : Addr) (n : Nat) : Wd := ⟨w.rho ++ [p], fun b => if b = p then some (.cell n) else w.own b⟩
theorem add_same {p : Addr} {n : Nat} : (w.add p n).own p = some (.cell n) := if_pos rfl
theorem add_ne {p b : Addr} {n : Nat} (h : b ≠ p) : (w.add p n).own b = w.own b := if_neg h
theorem add_pre {p : Addr} {n : Nat} {o : HO} (hp : H p = none) : Pre w H (w.add p n) (upd H p o) := by
  have ne : ∀ {a u}, H a = some u → a ≠ p := fun {a u} h z => by rw [z, hp] at h; cases h
  refine ⟨fun m a h => (List.getElem?_append_left (List.getElem?_eq_some_iff.mp h).1).trans h, fun a vs h k => ⟨(add_ne (ne k)).trans h, (upd_ne (ne k)).trans k⟩, fun a vs k => (upd_ne (ne k)).trans k, fun a o u k => (upd_ne (ne k)).trans k⟩
theorem getF_lt {hp : List HOb} {n : Nat} {f : Str} {sv : SV} (h : getF hp n f = some sv) : n < hp.length := by
  obtain ⟨C, fs, k, _⟩ := getF_some h
  exact (List.getElem?_eq_some_iff.mp k).1
theorem add_obj {K : PySem.W.Frag} {p : Addr} {o : HO} {ob : HOb} (sr : SR K cls w s σ H) (hp : H p = none) (hob : ObOk K cls (w.add p s.hp.length) (upd H p o) s.hp.length ob p) :
    SR K cls (w.add p s.hp.length) ⟨s.sl, s.hp ++ [ob]⟩ σ (upd H p o) ∧ Ext w H (w.add p s.hp.length) (upd H p o) ∧ RD K w H (w.add p s.hp.length) σ (upd H p o) (.ref s.hp.length) (.ref p) := by
  have pr : Pre w H (w.add p s.hp.length) (upd H p o) := add_pre hp
  have ne : ∀ {a u}, H a = some u → a ≠ p := fun {a u} h z => by rw [z, hp] at h; cases h
  have no : ∀ {a u}, w.own a = some u → a ≠ p := fun {a u} h => by
    obtain ⟨z, hz⟩ := sr.hr.dom a u h
    exact ne hz
  have ow : ∀ {a u}, w.own a = some u → (w.add p s.hp.length).own a = some u := fun {a u} h => (add_ne (no h)).trans h
  have keepL : ∀ {ow' : Own} (a vs), w.own a = some ow' → H a = some (.lst vs) → (w.add p s.hp.length).own a = some ow' ∧ (upd H p o) a = some (.lst vs) := fun {ow'} a vs x y => ⟨ow x, (upd_ne (ne y)).trans y⟩
  refine ⟨⟨⟨?_, fun a u h => ?_, fun a n f h => ?_, fun n ob' h => ?_⟩, sr.sl, fun i sv h => ?_⟩, ⟨⟨[p], rfl⟩, fun a u h q z => ⟨ow h, upd_ne (no h)⟩, fun a u h => ⟨u, ow h⟩, fun a u h q => ⟨u, ow h, q⟩, fun a n h => ow h, fun r n C dx fs h k => ⟨fs, (upd_ne (ne k)).trans k, fun f v q => ⟨v, q, fun t => ⟨rfl, ?_⟩⟩⟩, fun a u h => ⟨u, (upd_ne (ne h)).trans h⟩, pr.tup, pr.frz⟩, ?_, trivial⟩
  · show (w.rho ++ [p]).length = (s.hp ++ [ob]).length
    rw [List.length_append, List.length_append, sr.hr.rl]
    rfl
  · by_cases z : a = p
    · subst z
      exact ⟨o, upd_same⟩
    · rw [add_ne z] at h
      obtain ⟨u', hu⟩ := sr.hr.dom a u h
      exact ⟨u', (upd_ne z).trans hu⟩
  · have z : a ≠ p := fun z => by
      subst z
      rw [add_same] at h
      rcases h with h | h <;> cases h
    rw [add_ne z] at h
    obtain ⟨⟨sv, k1, k2⟩, k3⟩ := sr.hr.tok a n f h
    have hn := getF_lt k1
    have eg : getF (s.hp ++ [ob]) n f = getF s.hp n f := by
      unfold getF
      rw [List.getElem?_append_left hn]
    refine ⟨⟨sv, eg.trans k1, k2⟩, fun r C dx fvs q1 q2 => ?_⟩
    have q1' : w.rho[n]? = some r := by
      have q3 : (w.rho ++ [p])[n]? = some r := q1
      rw [List.getElem?_append_left (by rw [sr.hr.rl]; exact hn)] at q3
      exact q3
    obtain ⟨C0, fs0, j1, _⟩ := getF_some k1
    obtain ⟨r', y1, y2, _⟩ := sr.hr.objs n _ j1
    rw [q1'] at y1
    cases y1
    rw [upd_ne (no y2)] at q2
    exact k3 r C dx fvs q1' q2
  · by_cases hn : n < s.hp.length
    · have h' : (s.hp ++ [ob])[n]? = some ob' := h
      rw [List.getElem?_append_left hn] at h'
      obtain ⟨r, k1, k2, k3⟩ := sr.hr.objs n ob' h'
      refine ⟨r, pr.rho _ _ k1, ow k2, ?_⟩
      cases ob' with
      | box xs =>
        obtain ⟨vs, j1, j2⟩ := k3
        exact ⟨vs, (upd_ne (no k2)).trans j1, j2.pre pr⟩
      | ins C fs =>
        obtain ⟨dx, fvs, j1, j2, j3⟩ := k3
        exact ⟨dx, fvs, (upd_ne (no k2)).trans j1, flds_imp (fun f sv v z => z.to pr keepL keepL) j2, j3⟩
    · have h' : (s.hp ++ [ob])[n]? = some ob' := h
      have hl := (List.getElem?_eq_some_iff.mp h').1
      rw [List.length_append] at hl
      have e : n = s.hp.length := by
        have e1 : [ob].length = 1 := rfl
        omega
      subst e
      rw [List.getElem?_append_right (Nat.le_refl _), Nat.sub_self] at h'
      cases h'
      refine ⟨p, ?_, add_same, hob⟩
      show (w.rho ++ [p])[s.hp.length]? = some p
      rw [← sr.hr.rl, List.getElem?_append_right (Nat.le_refl _), Nat.sub_self]
      rfl
  · obtain ⟨v, k1, k2⟩ := sr.slots i sv h
    exact ⟨v, k1, k2.to pr keepL keepL⟩
  · obtain ⟨b, rfl, t⟩ := t
    refine ⟨b, rfl, ?_⟩
    have z : b ≠ p := fun z => by
      subst z
      rw [add_same] at t
      rcases t with t | t <;> cases t
    rw [add_ne z] at t
    exact t
  · show Rv K (w.add p s.hp.length) (upd H p o) (.ref s.hp.length) (.ref p)
    unfold Rv
    refine ⟨p, ?_, rfl⟩
    show (w.rho ++ [p])[s.hp.length]? = some p
    rw [← sr.hr.rl, List.getElem?_append_right (Nat.le_refl _), Nat.sub_self]
    rfl
theorem st_box (h : SFs X cls Z F ps es) : SE X cls Z F (.List ps pos) (.box es) := PE.weak (pe_lst h) fun σ H Q ⟨w, s, sr, po⟩ => by
  unfold evE at po
  exact ⟨w, s, sr, (PostG.bind anti_RD po).imp fun vs H1 ⟨w1, ds, s1, e1, sr1, r1, po1⟩ => by
    have r1' : Rvs X.K w1 H1 ds vs := r1
    split at po1
    · rename_i hz
      refine ⟨by rw [r1'.length]; exact hz, fun p hp => ?_⟩
      have e : Pre w1 H1 (w1.add p s1.hp.length) (upd H1 p (.lst vs)) := add_pre hp
      obtain ⟨k1, k2, k3⟩ := add_obj (o := .lst vs) (ob := .box ds) sr1 hp ⟨vs, upd_same, r1'.pre e⟩
      exact po1 _ _ _ k2 k1 k3
    · exact po1.elim⟩
/-! ### calls -/
theorem plain_star {pos : Pos} {env : Env} : ∀ {ps : List Expr}, ps.all noStar = true → (backTo pos (starEach ps env)).any (·.1) = false ∧ (backTo pos (starEach ps env)).all (fun x => !x.1) = true
  | [], _ => ⟨rfl, rfl⟩
  | p :: ps, h => by
    simp only [List.all_cons, Bool.and_eq_true] at h
    obtain ⟨h1, h2⟩ := plain_star (ps := ps) h.2
    rw [star_of h.1]
    unfold backTo at h1 h2 ⊢
    simp only [List.map_cons, List.any_cons, List.all_cons]
    rw [h1, h2]
    exact ⟨rfl, rfl⟩
/-- a call by its values -/
theorem call_ok {f n : Nat} {vs : List V} {ds : List D} {Q : VK} (hl : ∀ ds hp, ds.length ≠ n → F f ds hp = .stuck) (sr : SR X.K cls w s σ H) (r : Rvs X.K w H ds vs) (po : PostG X.K cls Z (RD X.K) (callD F f ds s) w H σ Q) :
    ∃ E, spF X.K cls F f n vs H Q E ∧ ∀ ce d H', E ce d H' → WZ X.K cls Z ce d σ H' := by
  unfold callD at po
  by_cases hn : ds.length = n
  · refine ⟨fun ce d H' => WZ X.K cls Z ce d σ H', ⟨w.down, ds, s.hp, hn, sr.hr.down, nosl_down, r.pre down_pre, ?_⟩, fun _ _ _ z => z⟩
    cases q : F f ds s.hp with
    | ok d hp =>
      rw [q] at po
      exact fun w' v H' e hr rp nw => po (w.up w') v H' (Ext.up e sr.hr.dom) (SR.up e sr hr) (Rp.up e rp nw)
    | ex c fs hp =>
      rw [q] at po
      exact fun w' H' ce d e hr ea => ⟨c, fs, ⟨s.sl, hp⟩, w.up w', SR.up e sr hr, ExAt.up e ea, po (w.up w') H' (Ext.up e sr.hr.dom) (SR.up e sr hr)⟩
    | stuck =>
      rw [q] at po
      exact po.elim
  · rw [hl ds s.hp hn] at po
    exact po.elim
theorem st_call {k f : Nat} {fa : Addr} {fd : FuncData} {xs : List Str} {x : Str} {p : Pos} (G : FnG X.prog X.w X.K X.mg X.base k fa fd xs (spF X.K cls F f xs.length)) (hl : ∀ ds hp, ds.length ≠ xs.length → F f ds hp = .stuck) (hr : Room k X.A) (hgd : X.A.guards = some []) (hg : Gl X x) (hm : X.mg x = some (.ref fa)) (hk : PySem.W.keepIn X.K (.ref fa) = true)
    (hb : Binds X.K fd xs []) (tk : Takes X (WZ X.K cls Z)) (hd : (x == ("__debug__" : Str)) = false) (ha : SFs X cls Z F ps es) (hn : ps.all noStar = true) (he : ps = [] → es = .nil) : SE X cls Z F (.Call (.Name x p) ps [] pos) (.call f es) := by
  have key : ∀ (t : TA) (h : ∀ σ H Q, rFs X.K cls Z F es σ H Q → t σ H Q) σ H Q, rE X.K cls Z F (.call f es) σ H Q → tCallG (WZ X.K cls Z) (spF X.K cls F f xs.length) (rFs X.K cls Z F es) σ H Q := fun t h σ H Q ⟨w, s, sr, po⟩ => by
    unfold evE at po
    exact ⟨w, s, sr, (PostG.bind anti_RD po).imp fun vs H1 ⟨w1, ds, s1, e1, sr1, r1, po1⟩ => call_ok hl sr1 r1 po1⟩
  cases ps with
  | cons e ps =>
    simp only [List.all_cons, Bool.and_eq_true] at hn
    exact PE.weak (pe_callG G hr hgd hg hm hk hb tk ha hd (star_of hn.1) (plain_star hn.2).1) (key _ fun _ _ _ z => z)
  | nil =>
    obtain rfl := he rfl
    exact PE.weak (pe_callG0 G hr hgd hg hm hk hb tk hd) fun σ H Q ⟨w, s, sr, po⟩ => by
      unfold evE at po
      have po' : PostG X.K cls Z (RD X.K) ((evFs F .nil s).bind fun xs s2 => callD F f xs s2) w H σ Q := po
      unfold evFs at po'
      exact call_ok hl sr Rvs.mk0 po'
theorem boot_bi (b : Bi) : bootBuiltins (biN b) = some (biV b) ∧ biN b ≠ "__name__" ∧ (biN b == ("__debug__" : Str)) = false := by
  cases b <;> exact ⟨by decide +kernel, by decide +kernel, by decide +kernel⟩
theorem st_bi {b : Bi} {p : Pos} {e : Expr} (hc : X.calm = true) (hgd : X.A.guards = some []) (hu : X.A.units + 70 < cLine) (hg : Gl X (biN b)) (hm : X.mg (biN b) = none) (ha : SEs X cls Z F (e :: ps) es) (hn : (e :: ps).all noStar = true) :
    SE X cls Z F (.Call (.Name (biN b) p) (e :: ps) [] pos) (.bi b es) := by
  have hn' := hn
  simp only [List.all_cons, Bool.and_eq_true] at hn'
  have cr := bir_ok hc hgd hu b
  obtain ⟨h1, h2, h3⟩ := boot_bi b
  have pe : PE X (.Call (.Name (biN b) p) (e :: ps) [] pos) (tCB (bir X.K b) (rEs X.K cls Z F es)) := by
    cases b <;> first
      | exact pe_callB cr hg hm h1 ha h2 h3 (star_of hn'.1) (plain_star hn'.2).1
      | exact pe_callTy cr hg hm h1 ha h2 h3 (star_of hn'.1) (plain_star hn'.2).1
  refine PE.weak pe fun σ H Q ⟨w, s, sr, po⟩ => ?_
  unfold evE at po
  exact ⟨w, s, sr, (PostG.bind anti_RD po).imp fun vs H1 ⟨w1, ds, s1, e1, sr1, r1, po1⟩ => by
    obtain ⟨z, ez, po3⟩ := PostG.opt1 po1
    exact biD_ok sr1 r1 ez fun w' v H' e' sr' rd => po3 w' v H' e' sr' rd⟩
theorem bmK_ok {m : Bm} {x : D} {v : V} {u : Unit} (sr : SR X.K cls w s σ H) (r : Rp X.K w σ H x v) (e : bmK m x s = some u) : tyV X.K "list" v H := by
  unfold bmK at e
  cases g : lview x s with
  | none => rw [g] at e; cases e
  | some xs =>
    obtain ⟨a, vs, rfl, h1, h2⟩ := lview_ok sr r g
    exact .inl ⟨rfl, vs, SqL.of h1⟩
theorem base_of {e : Expr} {n : Str} {env : Env} {wh : Sem Value} (h : noCall e = true) : attributeBase e n env wh = wh := by
  cases e <;> first
    | rfl
    | cases h
theorem st_bm {m : Bm} {apos : Pos} (ha : SE X cls Z F pa a) (hs : SFs X cls Z F ps es) (hn : ps.all noStar = true) (hc : noCall pa = true) (hl : (apos.endLine == pos.line) = true) (hf : ps.length < 30) (he : ps = [] → es = .nil) :
    SE X cls Z F (.Call (.Attribute pa (bmN m) apos) ps [] pos) (.bm m a es) := by
  have key : ∀ σ H Q, rE X.K cls Z F (.bm m a es) σ H Q → tBM X.K "list" (bmr X.K m) (rE X.K cls Z F a) (rFs X.K cls Z F es) σ H Q := fun σ H Q ⟨w, s, sr, po⟩ => by
    unfold evE at po
    exact ⟨w, s, sr, (PostG.bind anti_RD po).imp fun x H1 ⟨w1, dx, s1, e1, sr1, r1, po1⟩ => by
      obtain ⟨u, eu, po2⟩ := PostG.opt po1
      exact ⟨bmK_ok sr1 r1.1 eu, w1, s1, sr1, (PostG.bind anti_RD po2).imp fun vs H2 ⟨w2, ds, s2, e2, sr2, r2, po3⟩ => by
        obtain ⟨z, s3, ez, po4⟩ := PostG.opt21 po3
        exact bmD_ok sr2 (r1.1.ext e2) r2 ez fun w' v H' e' sr' rd => po4 w' v H' e' sr' rd⟩⟩
  have hslot : Slot "list" (bmN m) (bmI m) ∧ typeOf (.builtin (bmI m)) = pure (.type "method_descriptor") := by
    cases m
    · exact ⟨PySem.F.slot_list_append, PySem.F.type_list_append⟩
    · exact ⟨PySem.F.slot_list_pop, PySem.F.type_list_pop⟩
    · exact ⟨PySem.F.slot_list_pop, PySem.F.type_list_pop⟩
  cases ps with
  | nil =>
    obtain rfl := he rfl
    refine PE.weak (pe_bm0 PySem.F.plainAttrs_list hslot.1 hslot.2 (bmr_ok m) ha (base_of hc) hl) fun σ H Q ⟨w, s, sr, po⟩ => ?_
    unfold evE at po
    exact ⟨w, s, sr, (PostG.bind anti_RD po).imp fun x H1 ⟨w1, dx, s1, e1, sr1, r1, po1⟩ => by
      obtain ⟨u, eu, po2⟩ := PostG.opt po1
      unfold evFs at po2
      obtain ⟨z, s3, ez, po4⟩ := PostG.opt21 po2
      exact ⟨bmK_ok sr1 r1.1 eu, bmD_ok sr1 r1.1 Rvs.mk0 ez fun w' v H' e' sr' rd => po4 w' v H' e' sr' rd⟩⟩
  | cons e ps =>
    have hn' := hn
    simp only [List.all_cons, Bool.and_eq_true] at hn'
    refine PE.weak (pe_bm PySem.F.plainAttrs_list hslot.1 hslot.2 (bmr_ok m) ha hs (base_of hc) ?_ hl (star_of hn'.1) (plain_star hn'.2).1) key
    rw [(plain_star hn).2]
    show (true && true && decide (_ + 0 + 0 < 30)) = true
    simpa using hf
end
end MP
end
section
set_option maxRecDepth 100000
set_option maxHeartbeats 1000000
set_option autoImplicit false
/-! MPr: tests, walks, targets. -/
namespace MP
open PySem PySem.Spec PyProof.Rows L2
section
variable {X : Cx} {cls : Nat → Addr} {Z : XZ} {F : Nat → List D → List HOb → CRes} {pos : Pos} {w w0 : Wd} {H H0 : Hp} {σ : L2.St} {s : MSt}
variable {pa pb pc pd tg : Expr} {a b d : E} {c : C} {cs : Cs} {ps : List Expr} {es : Es}
/-! ### tests -/
def noCmp : Expr → Bool
  | .Compare _ _ _ _ => false
  | _ => true
theorem test_of {e : Expr} {env : Env} (h1 : noTest e = true) (h2 : noCmp e = true) (whole : Sem Value) : isTrue e env whole = (do let v ← whole; standAt e.pos; holding [v] (truthy v)) := by
  cases e with
  | UnaryOp op x p => cases op <;> first
    | rfl
    | cases h1
  | BoolOp _ _ _ => cases h1
  | IfExp _ _ _ _ => cases h1
  | Compare _ _ _ _ => cases h2
  | _ => rfl
theorem st_truth (ha : SE X cls Z F pa a) (h1 : noTest pa = true) (h2 : noCmp pa = true) : SC X cls Z F pa (.of a) :=
  PT.weak (pt_truth ha (test_of h1 h2)) fun σ H Q ⟨w, s, sr, po⟩ => by
    unfold evC at po
    exact ⟨w, s, sr, (PostG.bind anti_RB po).imp fun x H1 ⟨w1, dx, s1, e1, sr1, r1, po1⟩ => by
      obtain ⟨k, ek, po2⟩ := PostG.opt1 po1
      exact ⟨k, truth_ok sr1 r1.1 ek, PostG.now po2 sr1 rfl⟩⟩
theorem st_cnot (h : SC X cls Z F pa c) : SC X cls Z F (.UnaryOp .Not pa pos) (.not c) :=
  PT.weak (pt_not h) fun σ H Q ⟨w, s, sr, po⟩ => by
    unfold evC at po
    exact ⟨w, s, sr, (PostG.bind anti_RB po).imp fun k H1 ⟨w1, k', s1, e1, sr1, r1, po1⟩ => by
      have r1' : k' = k := r1
      subst r1'
      exact PostG.now po1 sr1 rfl⟩
theorem st_cbool {k : Bool} (h : PW X (.BoolOp (opB k) ps pos) (rCs X.K cls Z F k cs)) : SC X cls Z F (.BoolOp (opB k) ps pos) (.bool k cs) :=
  PT.weak h.pt fun σ H Q ⟨w, s, sr, po⟩ => by
    unfold evC at po
    exact ⟨w, s, sr, po⟩
theorem cs_one {k : Bool} {σ : L2.St} {H : Hp} {Q : Bool → Hp → Prop} (q : rCs X.K cls Z F k (.cons c .nil) σ H Q) : rC X.K cls Z F c σ H Q := by
  obtain ⟨w, s, sr, po⟩ := q
  unfold evCs at po
  exact ⟨w, s, sr, (PostG.bind anti_RB po).imp fun b H1 ⟨w1, b', s1, e1, sr1, r1, po1⟩ => by
    have r1' : b' = b := r1
    subst r1'
    split at po1
    · rename_i h
      have e : b' = k := by simpa using h
      subst e
      unfold evCs at po1
      exact PostG.now po1 sr1 rfl
    · exact PostG.now po1 sr1 rfl⟩
theorem st_cs1 {k : Bool} (h : SC X cls Z F pa c) : PW X (.BoolOp (opB k) [pa] pos) (rCs X.K cls Z F k (.cons c .nil)) := by
  cases k with
  | true => exact PW.weak (pw_and1 h) fun σ H Q q => cs_one q
  | false => exact PW.weak (pw_or1 h) fun σ H Q q => cs_one q
theorem st_cs {k : Bool} (h : SC X cls Z F pa c) (hr : PW X (.BoolOp (opB k) (pb :: ps) pos) (rCs X.K cls Z F k cs)) : PW X (.BoolOp (opB k) (pa :: pb :: ps) pos) (rCs X.K cls Z F k (.cons c cs)) := by
  have key : ∀ σ H Q, rCs X.K cls Z F k (.cons c cs) σ H Q → rC X.K cls Z F c σ H fun b H1 => if (b == k) = true then rCs X.K cls Z F k cs σ H1 Q else Q b H1 := fun σ H Q ⟨w, s, sr, po⟩ => by
    unfold evCs at po
    exact ⟨w, s, sr, (PostG.bind anti_RB po).imp fun b H1 ⟨w1, b', s1, e1, sr1, r1, po1⟩ => by
      have r1' : b' = b := r1
      subst r1'
      split at po1
      · rename_i h
        rw [if_pos h]
        exact ⟨w1, s1, sr1, po1⟩
      · rename_i h
        rw [if_neg h]
        exact PostG.now po1 sr1 rfl⟩
  cases k with
  | true =>
    refine PW.weak (pw_and h hr) fun σ H Q q => tG.imp (key σ H Q q) fun b H1 q => ?_
    cases b <;> exact q
  | false =>
    refine PW.weak (pw_or h hr) fun σ H Q q => tG.imp (key σ H Q q) fun b H1 q => ?_
    cases b <;> exact q
theorem PTs.weak {ifs : List Expr} {t t' : TT} (h : PTs X ifs t) (i : ∀ σ H Q, t' σ H Q → t σ H Q) : PTs X ifs t' := ⟨fun pins s σ H Q I q => h.run pins s σ H Q I (i σ H Q q)⟩
theorem st_pts0 : PTs X [] (rCs X.K cls Z F true .nil) := PTs.weak pts_nil fun σ H Q ⟨w, s, sr, po⟩ => by
  unfold evCs at po
  exact PostG.now (R := RB) po sr rfl
theorem st_pts1 (h : SC X cls Z F pa c) : PTs X [pa] (rCs X.K cls Z F true (.cons c .nil)) := PTs.weak (pts_one h) fun σ H Q q => cs_one q
/-! ### walks -/
abbrev SI (X : Cx) (cls : Nat → Addr) (Z : XZ) (F : Nat → List D → List HOb → CRes) (lk : Bool) (tg pe : Expr) (it : I) : Prop := PI X tg pe (rI X.K cls Z F lk it)
theorem PI.weak {e : Expr} {t t' : TI} (h : PI X tg e t) (i : ∀ σ H Q, t' σ H Q → t σ H Q) : PI X tg e t' := ⟨fun pins s σ H Q I q => h.run pins s σ H Q I (i σ H Q q)⟩
theorem no_un {P : Prop} {b : Bool} (h : b = false) : b = true → P := fun z => by rw [h] at z; cases z
theorem st_iof {lk : Bool} (ha : SE X cls Z F pa a) : SI X cls Z F lk tg pa (.of a) :=
  PI.weak (pi_any ha) fun σ H R ⟨w, s, sr, po⟩ => by
    unfold evI at po
    exact ⟨w, s, sr, (PostG.bind2 anti_RD po ExtB.refl).imp fun x H1 ⟨w1, dx, s1, e1, sr1, r1, po1⟩ => by
      obtain ⟨xs, ex, po2⟩ := PostG.opt po1
      obtain ⟨b, s3, eb, po3⟩ := PostG.opt2 po2
      have go : lview dx s1 = some xs → (∃ a, x = .ref a ∧ (∃ xs, SqL X.K H1 a xs) ∧ R (Itl X.K a) H1) ∨ (∃ a, x = .ref a ∧ (∃ xs, SqT X.K H1 a xs) ∧ R (Itt X.K a) H1) ∨ ∃ z, x = .str z ∧ R (Its z) H1 := fun el => by
        obtain ⟨w', av, vs, o, rfl, h1, h2, h3, h4, h5, h6, h7⟩ := fix_lst sr1 r1.1 el eb
        obtain ⟨k1, k2⟩ := h7 w H e1 r1.2
        exact .inl ⟨av, rfl, ⟨vs, SqL.of h1⟩, po3 w' _ H1 k1 h6 ⟨it_lst h3 h4 h5 h1 h2, k2⟩⟩
      cases dx with
      | str z =>
        have ex' : some (strD z) = some xs := ex
        cases ex'
        obtain ⟨f1, f2⟩ := fix_hard rfl eb
        subst f2
        exact .inr (.inr ⟨z, rp_str r1.1, po3 w1 _ H1 e1 sr1 ⟨it_str, no_un f1⟩⟩)
      | tup ys =>
        have ex' : some ys = some xs := ex
        cases ex'
        obtain ⟨f1, f2⟩ := fix_hard rfl eb
        subst f2
        obtain ⟨av, vs, rfl, h1, h2⟩ := rp_tup r1.1
        exact .inr (.inl ⟨av, rfl, ⟨vs, h1⟩, po3 w1 _ H1 e1 sr1 ⟨it_tup h1 h2, no_un f1⟩⟩)
      | _ => exact go ex⟩
theorem st_ienum {lk : Bool} {p tpos : Pos} {elts : List Expr} {kk : Nat} (hg : Gl X "enumerate") (hm : X.mg "enumerate" = none) (ha : SE X cls Z F pa a) (hs : noStar pa = true) : SI X cls Z F lk (.Tuple elts kk tpos) (.Call (.Name "enumerate" p) [pa] [] pos) (.enum a) :=
  PI.weak (pi_enumA hg hm ha hs) fun σ H R ⟨w, s, sr, po⟩ => by
    unfold evI at po
    exact ⟨w, s, sr, (PostG.bind2 anti_RD po ExtB.refl).imp fun x H1 ⟨w1, dx, s1, e1, sr1, r1, po1⟩ => by
      obtain ⟨xs, ex, po2⟩ := PostG.opt po1
      obtain ⟨b, s3, eb, po3⟩ := PostG.opt2 po2
      have go : lview dx s1 = some xs → (∃ a, x = .ref a ∧ (∃ xs, SqL X.K H1 a xs) ∧ R (Ite X.K a) H1) ∨ ∃ a, x = .ref a ∧ (∃ xs, SqT X.K H1 a xs) ∧ R (IteT X.K a) H1 := fun el => by
        obtain ⟨w', av, vs, o, rfl, h1, h2, h3, h4, h5, h6, h7⟩ := fix_lst sr1 r1.1 el eb
        obtain ⟨k1, k2⟩ := h7 w H e1 r1.2
        exact .inl ⟨av, rfl, ⟨vs, SqL.of h1⟩, po3 w' _ H1 k1 h6 ⟨it_enum h3 h4 h5 h1 h2, k2⟩⟩
      cases dx with
      | tup ys =>
        have ex' : some ys = some xs := ex
        cases ex'
        obtain ⟨f1, f2⟩ := fix_hard rfl eb
        subst f2
        obtain ⟨av, vs, rfl, h1, h2⟩ := rp_tup r1.1
        exact .inr ⟨av, rfl, ⟨vs, h1⟩, po3 w1 _ H1 e1 sr1 ⟨it_enumT h1 h2, no_un f1⟩⟩
      | _ => exact go ex⟩
theorem rng_of {x y : D} {xs : List D} (h : rngV x y = some xs) : ∃ i j, x = .int i ∧ y = .int j ∧ ((-(2 ^ 62) ≤ i ∧ i < 2 ^ 62) ∧ -(2 ^ 62) ≤ j ∧ j < 2 ^ 62) ∧ xs = rngD i j := by
  unfold rngV at h
  split at h
  · split at h
    · cases h
      exact ⟨_, _, rfl, rfl, by assumption, rfl⟩
    · cases h
  · cases h
theorem st_irng {lk : Bool} {p : Pos} (hg : Gl X "range") (hm : X.mg "range" = none) (ha : SE X cls Z F pa a) (hs : noStar pa = true) : SI X cls Z F lk tg (.Call (.Name "range" p) [pa] [] pos) (.rng a) :=
  PI.weak (pi_range1 hg hm (pa_cons ha pa_nil (star_of hs)) (star_of hs)) fun σ H R ⟨w, s, sr, po⟩ => by
    unfold evI at po
    exact ⟨w, s, sr, (PostG.bind2 anti_RD po ExtB.refl).imp fun x H1 ⟨w1, dx, s1, e1, sr1, r1, po1⟩ => by
      obtain ⟨xs, ex, po2⟩ := PostG.opt po1
      obtain ⟨i, j, h1, rfl, h3, rfl⟩ := rng_of ex
      cases h1
      rw [rp_int r1.1]
      have e := it_rng (K := X.K) (cls := cls) (w := w1) (H := H1) (lo := 0) (hi := j)
      rw [Int.sub_zero] at e
      exact ⟨j, rfl, h3.2.1, h3.2.2, po2 w1 _ H1 e1 sr1 ⟨e, no_un rfl⟩⟩⟩
theorem st_irng2 {lk : Bool} {p : Pos} (hg : Gl X "range") (hm : X.mg "range" = none) (ha : SE X cls Z F pa a) (hb : SE X cls Z F pb b) (hs : noStar pa = true) (hs2 : noStar pb = true) : SI X cls Z F lk tg (.Call (.Name "range" p) [pa, pb] [] pos) (.rng2 a b) :=
  PI.weak (pi_range2 hg hm (pa_cons ha (pa_cons hb pa_nil (star_of hs2)) (star_of hs)) (by rw [star_of hs, star_of hs2]; rfl) (star_of hs2)) fun σ H R ⟨w, s, sr, po⟩ => by
    unfold evI at po
    exact ⟨w, s, sr, (PostG.bind2 anti_RD po ExtB.refl).imp fun x H1 ⟨w1, dx, s1, e1, sr1, r1, po1⟩ => ⟨w1, s1, sr1, (PostG.bind2 anti_RD po1 e1).imp fun y H2 ⟨w2, dy, s2, e2, sr2, r2, po2⟩ => by
      obtain ⟨xs, ex, po3⟩ := PostG.opt po2
      obtain ⟨i, j, rfl, rfl, h3, rfl⟩ := rng_of ex
      rw [rp_int r1.1, rp_int r2.1]
      exact ⟨i, j, rfl, ⟨h3.1.1, h3.1.2, h3.2⟩, po3 w2 _ H2 (e1.trans e2) sr2 ⟨it_rng, no_un rfl⟩⟩⟩⟩
/-! ### targets -/
theorem PG.weak {e : Expr} {t t' : TG} (h : PG X e t) (i : ∀ v σ H Q, t' v σ H Q → t v σ H Q) : PG X e t' := ⟨fun pins s σ H v u Q I r q => h.run pins s σ H v u Q I r (i v σ H Q q)⟩
theorem PGs.weak {e : List Expr} {t t' : TGs} (h : PGs X e t) (i : ∀ v σ H Q, t' v σ H Q → t v σ H Q) : PGs X e t' := ⟨fun pins s σ H v u Q I r q => h.run pins s σ H v u Q I r (i v σ H Q q)⟩
abbrev ST (X : Cx) (cls : Nat → Addr) (Z : XZ) (F : Nat → List D → List HOb → CRes) (pe : Expr) (t : T) : Prop := PG X pe (gT X.K cls Z F t)
abbrev STs (X : Cx) (cls : Nat → Addr) (Z : XZ) (F : Nat → List D → List HOb → CRes) (ps : List Expr) (t : Ts) : Prop := PGs X ps (gTs X.K cls Z F t)
theorem st_tname {i : Nat} {x : Str} (hN : X.N.Nodup) (hi : X.N[i]? = some x) (hx : Loc X.env.scope x) (hf : X.fn x = true ∨ X.env.scope.names.lookup x = some .local) : ST X cls Z F (.Name x pos) (.name i) :=
  PG.weak (pg_name hN hi hx hf) fun v σ H Q ⟨tm, w0, H0, w, s, d, e, sr, r, n, po⟩ => by
    unfold asgT at po
    obtain ⟨s1, es, po1⟩ := PostA.opt po
    obtain ⟨w', k1, k2⟩ := storeS_ok sr r es
    exact po1 w' _ H (k2 tm w0 H0 e n) k1 Only.set
theorem assignEach_len {env : Env} : ∀ {ps : List Expr}, ps.all noStar = true → (assignEach ps env).length = ps.length ∧ (assignEach ps env).findIdx? (·.1) = none
  | [], _ => ⟨rfl, rfl⟩
  | p :: ps, h => by
    simp only [List.all_cons, Bool.and_eq_true] at h
    obtain ⟨h1, h2⟩ := assignEach_len (env := env) (ps := ps) h.2
    have e : assignEach (p :: ps) env = (false, assign p env) :: assignEach ps env := by
      cases p <;> first
        | rfl
        | cases h.1
    rw [e]
    exact ⟨by simp [h1], by simp [List.findIdx?_cons, h2]⟩
theorem st_ttup {ts : Ts} {j : Nat} (hc : X.calm = true) (h : STs X cls Z F ps ts) (hn : ps.all noStar = true) (hl : ps.length = ts.len) : ST X cls Z F (.Tuple ps j pos) (.tup ts) :=
  PG.weak (pg_tup hc h (assignEach_len hn).1 (assignEach_len hn).2) fun v σ H Q ⟨tm, w0, H0, w, s, d, e, sr, r, n, po⟩ => by
    unfold asgT at po
    obtain ⟨xs, ex, po1⟩ := PostA.opt po
    cases d with
    | tup ys =>
      cases ex
      obtain ⟨av, vs, rfl, h1, h2⟩ := rp_tup r
      split at po1
      · rename_i hz
        refine ⟨av, vs, rfl, h1, by rw [h2.length, hl]; exact hz, tm, w, s, xs, sr, h2, ?_⟩
        cases q : asgTs F ts xs s with
        | ok u s1 =>
          rw [q] at po1
          exact fun w' σ' H' e' sr' o => po1 w' σ' H' (e.trans e') sr' o
        | ex c fs s1 =>
          rw [q] at po1
          exact fun w' σ' H' e' sr' => po1 w' σ' H' (e.trans e') sr'
        | stuck =>
          rw [q] at po1
          exact po1
      · exact po1.elim
    | _ => cases ex
theorem st_tnil : STs X cls Z F [] .nil := PGs.weak pgs_nil fun v σ H Q ⟨tm, w, s, ds, sr, r, po⟩ => by
  unfold asgTs at po
  cases ds with
  | nil => exact ⟨r.nil, po w σ H ExtB.refl sr Only.refl⟩
  | cons d ds => exact po.elim
theorem st_tcons {t : T} {ts : Ts} (h1 : ST X cls Z F pa t) (h2 : STs X cls Z F ps ts) (hn : noStar pa = true) : STs X cls Z F (pa :: ps) (.cons t ts) :=
  PGs.weak (pgs_cons h1 h2 (by cases pa <;> first | rfl | cases hn)) fun v σ H Q ⟨tm, w, s, ds, sr, r, po⟩ => by
    unfold asgTs at po
    cases ds with
    | nil => exact po.elim
    | cons x xs =>
      have po : PostA X.K cls Z tm (Ts.cons t ts).slots ((asgT F t x s).bind fun _ s1 => asgTs F ts xs s1) w H σ Q := po
      obtain ⟨u, us, rfl, r1, r2⟩ := r.cons
      refine ⟨u, us, rfl, tm, w, H, w, s, x, ExtB.refl, sr, r1.rp, (rd_of (w0 := w) (H0 := H) (σ := σ) r1).2, ?_⟩
      cases q : asgT F t x s with
      | ok y s1 =>
        rw [q] at po
        refine fun w' σ' H' e' sr' o => ⟨tm, w', s1, xs, sr', r2.ext e', ?_⟩
        simp only [bind_ok] at po
        cases q2 : asgTs F ts xs s1 with
        | ok z s2 =>
          rw [q2] at po
          exact fun w2 σ2 H2 e2 sr2 o2 => po w2 σ2 H2 (e'.trans e2) sr2 (o.trans o2)
        | ex c fs s2 =>
          rw [q2] at po
          exact fun w2 σ2 H2 e2 sr2 => po w2 σ2 H2 (e'.trans e2) sr2
        | stuck =>
          rw [q2] at po
          exact po
      | ex c fs s1 =>
        rw [q] at po
        exact po
      | stuck =>
        rw [q] at po
        exact po
theorem oview_nonw {x : D} {s : MSt} {xs : List D} (h : oview x s = some xs) : x.nonw = true := by
  cases x with
  | nw ys => cases h
  | _ => rfl
theorem setIx_nonw {x y z : D} {s s1 : MSt} (h : setIx x y z s = some s1) : x.nonw = true ∧ y.nonw = true := by
  unfold setIx at h
  split at h
  · cases g : oview x s with
    | none => rw [g] at h; cases h
    | some xs => exact ⟨oview_nonw g, rfl⟩
  · cases h
theorem st_tix (ha : SE X cls Z F pa a) (hb : SE X cls Z F pb b) (hp : noSlc pb = true) : ST X cls Z F (.Subscript pa pb pos) (.ix a b) :=
  PG.weak (pg_sub ha hb set_list (fun v => by cases pb <;> first | rfl | cases hp)) fun v σ H Q ⟨tm, w0, H0, w, s, d, e, sr, r, n, po⟩ => by
    unfold asgT at po
    refine ⟨w, s, sr, (PostA.bindG po e).imp fun x H1 ⟨w1, dx, s1, e1, sr1, r1, po1⟩ => ⟨w1, s1, sr1, (PostA.bindG po1 (e.trans e1.any)).imp fun y H2 ⟨w2, dy, s2, e2, sr2, r2, po2⟩ => ?_⟩⟩
    obtain ⟨z, s3, ez, po3⟩ := PostA.opt2 po2
    obtain ⟨s4, e4, po4⟩ := PostA.opt po3
    obtain ⟨w3, k1, k2, k3, k4, k5⟩ := frz_okP sr2 (r.ext (e1.trans e2)) ez
    have nn := setIx_nonw e4
    refine setIx_ok k1 (k4 _ _ nn.1 (r1.1.ext e2)) (k4 _ _ nn.2 r2.1) k2 e4 fun H' e' sr' => ?_
    have e3 := k5 tm w0 H0 ((e.trans e1.any).trans e2.any) n
    exact po4 w3 σ H' (e3.trans e'.any) sr' Only.refl
end
end MP
end
section
set_option maxRecDepth 100000
set_option maxHeartbeats 1000000
set_option autoImplicit false
/-! MPs: comprehensions. -/
namespace MP
open PySem PySem.Spec PyProof.Rows L2
section
variable {K : PySem.W.Frag} {cls : Nat → Addr} {w w0 w1 : Wd} {H H0 H1 : Hp} {σ : L2.St} {s s1 : MSt} {vs : List Nat}
/-- the block's slots forgotten -/
theorem SR.wiped (h : SR K cls w s σ H) : SR K cls w (kill vs s) (wipe σ vs) H := by
  have k := kill_sr (is := vs) h
  refine ⟨k.hr, by rw [wipe_length]; exact k.sl, fun i sv q => ?_⟩
  obtain ⟨v, h1, h2⟩ := k.slots i sv q
  exact ⟨v, by rw [wipe_ne (kill_get q).1]; exact h1, h2⟩
/-- .. and back -/
theorem SR.unwiped (h : SR K cls w s (wipe σ vs) H) : SR K cls w s σ H := by
  refine ⟨h.hr, by rw [h.sl, wipe_length], fun i sv q => ?_⟩
  obtain ⟨v, h1, h2⟩ := h.slots i sv q
  exact ⟨v, (wipe_some h1).1, h2⟩
/-- an item more in a list of one's own -/
theorem SR.grow {D0 : Addr} {xs ys : List V} (h : SR K cls w s σ H) (h1 : w.own D0 = some .tmp) (h2 : H D0 = some (.lst xs)) (e : Ext w0 H0 w H) (hn : w0.own D0 = none) :
    SR K cls w s σ (upd H D0 (.lst ys)) ∧ Ext w0 H0 w (upd H D0 (.lst ys)) ∧ Pre w H w (upd H D0 (.lst ys)) := by
  have c : Chg w H w (upd H D0 (.lst ys)) D0 .tmp := chg_set h1 h2 fun z => nomatch z
  have nt : ∀ n f, (w.own D0 = some (.fld n f) ∨ w.own D0 = some (.lkf n f)) → False := fun n f z => by
    rw [h1] at z
    rcases z with z | z <;> cases z
  exact ⟨⟨c.hr h.hr (fun _ z => nomatch z) (fun _ _ z => nomatch z) (fun _ _ z => nomatch z) nt, h.sl, c.slots h (fun _ z => nomatch z) fun _ z => nomatch z⟩, c.extN e hn (fun n f z => (nt n f z).elim) fun _ => trivial, c.pre⟩
end
section
variable {X : Cx} {cls : Nat → Addr} {Z : XZ} {F : Nat → List D → List HOb → CRes} {pos : Pos}
variable {elt : E} {t : T} {it : I} {ifs : Cs} {vs : List Nat} {pelt ptg pit : Expr} {pifs : List Expr} {scope : Scope}
/-- a turn -/
def lcTurn (F : Nat → List D → List HOb → CRes) (elt : E) (t : T) (ifs : Cs) (vs : List Nat) (x : D) (s2 : MSt) : Res (Option D) :=
  noEx ((asgT F t x s2).bind fun _ s3 => (evCs F true ifs s3).bind fun b s4 => if b then (evE F elt s4).bind fun d s5 => (opt2 (frz d s5)).bind fun y s6 => .ok (some y) (kill vs s6) else .ok none (kill vs s4))
/-- how a comprehension stands ahead of turn i -/
def LcI (K : PySem.W.Frag) (cls : Nat → Addr) (F : Nat → List D → List HOb → CRes) (elt : E) (t : T) (ifs : Cs) (vs : List Nat) (xs : List D) (w1 : Wd) (H1 : Hp) (σ : L2.St) (D0 : Addr) (G : Res (List D) → Prop) (i : Nat) (H : Hp) : Prop :=
  ∃ w s acc accV, Ext w1 H1 w H ∧ w.own D0 = some .tmp ∧ H D0 = some (.lst accV) ∧ Rvs K w H acc accV ∧ SR K cls w s (wipe σ vs) H ∧ G (lcD (xs.drop i) (lcTurn F elt t ifs vs) acc s)
theorem lc_read {K : PySem.W.Frag} (hts : ∀ i, i ∈ t.slots → i ∈ vs) {σ : L2.St} {H : Hp} {Q : VK} (q : rE K cls Z F (.lc elt t it ifs vs) σ H Q) : tLc (rI K cls Z F true it) (gT K cls Zno F t) (rCs K cls Zno F true ifs) (rE K cls Zno F elt) vs σ H Q := by
  obtain ⟨w, s, sr, po⟩ := q
  unfold evE at po
  refine ⟨w, s, sr, (PostG.bind2 anti_ItR po ExtB.refl).imp fun J H1 ⟨w1, p, s1, e1, sr1, r1, po1⟩ => ?_⟩
  intro D0 hD
  obtain ⟨G, Y, wk, hG, hY⟩ := r1.it
  split at po1
  case isFalse => exact po1.elim
  have nD : w1.own D0 = none := no_own hD sr1.hr.dom
  let Gd : Res (List D) → Prop := fun r => PostG K cls Z (RD K) (r.bind fun ds s3 => .ok (.nw ds) (if p.2.2 then unlockD p.2.1 s3 else s3)) w H σ Q
  refine lc_it wk (LcI K cls F elt t ifs vs p.1 w1 H1 σ D0 Gd) ?_ ?_ ?_ ?_
  · have k : Keep w1 H1 (w1.put D0 .tmp) (upd H1 D0 (.lst [])) := Keep.list hD sr1.hr.dom
    exact ⟨w1.put D0 .tmp, kill vs s1, [], [], k.ext sr1.hr.dom, put_same, upd_same, Rvs.mk0, k.sr sr1.wiped, po1⟩
  · intro i H' _ ⟨w', s', acc, accV, e, _⟩
    exact hG true w' H' e
  · intro i x Hc H' hlt ⟨w', s', acc, accV, e, o1, o2, ra, sr', g⟩ y
    obtain ⟨d, w2, hd, sr2, e2, rd⟩ := hY true w' Hc i x H' s' (wipe σ vs) e sr' hlt y
    have dr : p.1.drop i = d :: p.1.drop (i + 1) := by
      rw [List.drop_eq_getElem_cons hlt]
      have z := List.getElem?_eq_some_iff.mp hd
      rw [z.2]
    rw [dr] at g
    have g1 : Gd ((lcTurn F elt t ifs vs d s').bind fun o s1 =>
      match o with
      | some d => if acc.length < sizeLine then lcD (p.1.drop (i + 1)) (lcTurn F elt t ifs vs) (acc ++ [d]) s1 else .stuck
      | none => lcD (p.1.drop (i + 1)) (lcTurn F elt t ifs vs) acc s1) := g
    unfold lcTurn at g1
    refine ⟨true, w2, H', w2, s', d, ExtB.refl, sr2, rd.rp, (rd_of (w0 := w2) (H0 := H') (σ := wipe σ vs) rd).2, ?_⟩
    cases q1 : asgT F t d s' with
    | ex c fs s3 => rw [q1] at g1; exact g1.elim
    | stuck => rw [q1] at g1; exact g1.elim
    | ok u s3 =>
      rw [q1] at g1
      simp only [bind_ok] at g1
      intro w3 σ3 H3 e3 sr3 on
      have wp : wipe σ3 vs = wipe σ vs := (wipe_only on hts).trans wipe_wipe
      refine ⟨wp, w3, s3, sr3, ?_⟩
      cases q2 : evCs F true ifs s3 with
      | ex c fs s4 => rw [q2] at g1; exact g1.elim
      | stuck => rw [q2] at g1; exact g1.elim
      | ok b s4 =>
        rw [q2] at g1
        simp only [bind_ok] at g1
        intro w4 b' H4 e4 sr4 rb
        have rb' : b = b' := rb
        subst rb'
        have e14 : Ext w' Hc w4 H4 := (e2.trans e3).trans e4
        cases b with
        | false =>
          simp only [Bool.false_eq_true, if_false] at g1 ⊢
          obtain ⟨k1, k2⟩ := e14.own D0 _ o1 rfl fun _ => rfl
          refine ⟨w4, kill vs s4, acc, accV, e.trans e14, k1, k2.trans o2, ra.ext e14, ?_, g1⟩
          have z := sr4.wiped (vs := vs)
          rw [wp] at z
          exact z
        | true =>
          simp only [if_true] at g1 ⊢
          refine ⟨w4, s4, sr4, ?_⟩
          cases q3 : evE F elt s4 with
          | ex c fs s5 => rw [q3] at g1; exact g1.elim
          | stuck => rw [q3] at g1; exact g1.elim
          | ok dy s5 =>
            rw [q3] at g1
            simp only [bind_ok] at g1
            intro w5 yv H5 e5 sr5 ry
            cases q4 : frz dy s5 with
            | none => rw [q4] at g1; exact g1.elim
            | some pr =>
              obtain ⟨y', s6⟩ := pr
              rw [q4] at g1
              simp only [opt2_some, bind_ok] at g1
              obtain ⟨w6, m1, m2, m3, m4, m5⟩ := frz_okP sr5 ry.1 q4
              have e46 := m5 true w4 H4 e5 ry.2
              have e16 : Ext w' Hc w6 H5 := e14.trans e46
              obtain ⟨k1, k2⟩ := e16.own D0 _ o1 rfl fun _ => rfl
              have g2 : Gd (if acc.length < sizeLine then lcD (p.1.drop (i + 1)) (lcTurn F elt t ifs vs) (acc ++ [y']) (kill vs s6) else .stuck) := g1
              split at g2
              · rename_i hz
                refine ⟨accV, k2.trans o2, by rw [ra.length]; exact hz, ?_⟩
                have z := m1.wiped (vs := vs)
                rw [wp] at z
                obtain ⟨j1, j2, j3⟩ := z.grow (ys := accV ++ [yv]) k1 (k2.trans o2) (e.trans e16) nD
                exact ⟨w6, kill vs s6, acc ++ [y'], accV ++ [yv], j2, k1, upd_same, ((ra.ext e16).append (.mk m2 .mk0)).pre j3, j1, g2⟩
              · exact g2.elim
  · intro H' ⟨w', s', acc, accV, e, o1, o2, ra, sr', g⟩
    rw [List.drop_length] at g
    have g1 : PostG K cls Z (RD K) (.ok (.nw acc) (if p.2.2 then unlockD p.2.1 s' else s')) w H σ Q := g
    have nw : w.own D0 = none := by
      cases q : w.own D0 with
      | none => rfl
      | some o =>
        obtain ⟨o', z⟩ := e1.som D0 o q
        rw [nD] at z
        cases z
    cases hb : p.2.2 with
    | false =>
      rw [hb] at g1
      exact g1 w' (.ref D0) H' (e1.trans e) sr'.unwiped ⟨⟨D0, accV, rfl, o1, o2, ra⟩, D0, rfl, nw⟩
    | true =>
      rw [hb] at g1
      obtain ⟨w4, k1, k2, k3, k4⟩ := r1.un hb w' s' H' e sr'.unwiped
      exact g1 w4 (.ref D0) H' k2 k1 ⟨⟨D0, accV, rfl, k4 D0 o1, o2, ra.pre k3⟩, D0, rfl, nw⟩
theorem st_lc (hc : X.calm = true) (hN : X.N.Nodup) (hi : SI X cls Z F true ptg pit it) (ok : BlkOk X.N X.env.scope scope (ownOf X.N vs)) (hv : (ownOf X.N vs).map (·.2) = vs) (hts : ∀ i, i ∈ t.slots → i ∈ vs)
    (hg : ∀ (s : Shared) (H : Hp) (C : Addr) (cl : List (Str × Addr)) (fp : List Addr), ST (X.blk s H scope (compEnvC scope cl C X.env) fp) cls Zno F ptg t)
    (ht : ∀ (s : Shared) (H : Hp) (C : Addr) (cl : List (Str × Addr)) (fp : List Addr), PTs (X.blk s H scope (compEnvC scope cl C X.env) fp) pifs (rCs X.K cls Zno F true ifs))
    (he : ∀ (s : Shared) (H : Hp) (C : Addr) (cl : List (Str × Addr)) (fp : List Addr), SE (X.blk s H scope (compEnvC scope cl C X.env) fp) cls Zno F pelt elt)
    (hs : ∀ x, foldedSetIterable pit X.env x = pure x) : SE X cls Z F (.ListComp pelt [⟨ptg, pit, pifs, 0⟩] scope pos) (.lc elt t it ifs vs) := by
  have pl := pe_lc (elt := pelt) (te := rE X.K cls Zno F elt) (g := gT X.K cls Zno F t) (pos := pos) hc hN hi ok hg ht he hs
  rw [hv] at pl
  exact PE.weak pl fun σ H Q q => lc_read hts q
/-- name = a comprehension on one line -/
theorem st_setLc {i : Nat} {y : Str} {py spos : Pos} (hc : X.calm = true) (hN : X.N.Nodup) (hy : X.N[i]? = some y) (hyl : X.env.scope.names.lookup y = some .local)
    (hl : (py.line == pos.line) = true) (hn : (scope.names.any fun (n, k) => n == y && (k == .local || k == .cell)) = false) (hi : SI X cls Z F true ptg pit it) (ok : BlkOk X.N X.env.scope scope (ownOf X.N vs)) (hv : (ownOf X.N vs).map (·.2) = vs) (hts : ∀ i, i ∈ t.slots → i ∈ vs)
    (hg : ∀ (s : Shared) (H : Hp) (C : Addr) (cl : List (Str × Addr)) (fp : List Addr), ST (X.blk s H scope (compEnvC scope cl C X.env) fp) cls Zno F ptg t)
    (ht : ∀ (s : Shared) (H : Hp) (C : Addr) (cl : List (Str × Addr)) (fp : List Addr), PTs (X.blk s H scope (compEnvC scope cl C X.env) fp) pifs (rCs X.K cls Zno F true ifs))
    (he : ∀ (s : Shared) (H : Hp) (C : Addr) (cl : List (Str × Addr)) (fp : List Addr), SE (X.blk s H scope (compEnvC scope cl C X.env) fp) cls Zno F pelt elt)
    (hs : ∀ x, foldedSetIterable pit X.env x = pure x) : PS X (.Assign [.Name y py] (.ListComp pelt [⟨ptg, pit, pifs, 0⟩] scope pos) spos) (tAsg (rE X.K cls Z F (.lc elt t it ifs vs)) (gName i)) := by
  refine ⟨fun pins s σ H D I q => ?_⟩
  have pl := ps_setLc (elt := pelt) (te := rE X.K cls Zno F elt) (g := gT X.K cls Zno F t) (pos := pos) hc hN hy hyl (sw_true (l := spos.line) I.ok.kind hyl hl hn) hi ok hg ht he hs
  rw [hv] at pl
  exact pl.run pins s σ H D I (lc_read hts q)
end
end MP
end
section
set_option maxRecDepth 100000
set_option maxHeartbeats 1000000
set_option autoImplicit false
/-! MPt: the checker is right: expressions. -/
namespace MP
open PySem PySem.Spec PyProof.Rows L2
section
variable {g : Sg} {cls : Nat → Addr} {F : Nat → List D → List HOb → CRes} {k : Nat} {c : Ct} {X : Cx}
theorem XO.hu (xo : XO g cls F k c X) : X.A.units + 65 < cLine := by
  have := xo.room.un
  omega
theorem XO.hu2 (xo : XO g cls F k c X) : X.A.units + 70 < cLine := by
  have := xo.room.un
  omega
theorem XO.blk (xo : XO g cls F k c X) (s : Shared) (H : Hp) (scope : Scope) (cl : List (Str × Addr)) (C : Addr) (fp : List Addr) : XO g cls F k (c.blk scope) (X.blk s H scope (compEnvC scope cl C X.env) fp) where
  N := xo.N
  nd := xo.nd
  sc := by
    show relS scope X.env.scope = relS scope c.sc
    rw [xo.sc]
  fn := fun x h => h
  calm := xo.calm
  room := xo.room
  grd := xo.grd
  gok := xo.gok
theorem XO.ix (xo : XO g cls F k c X) {i : Nat} {x : Str} (h : decide (c.N[i]? = some x) = true) : X.N[i]? = some x := by
  rw [xo.N]
  exact of_decide_eq_true h
theorem XO.hN (xo : XO g cls F k c X) : X.N.Nodup := by
  rw [xo.N]
  exact xo.nd
theorem XO.vis (xo : XO g cls F k c X) {x : Str} (h : visB c x = true) : Vis X.env.scope x := by
  unfold Vis
  rw [xo.sc]
  unfold visB at h
  split at h <;> first
    | exact .inl (by assumption)
    | exact .inr (.inl (by assumption))
    | exact .inr (.inr (by assumption))
    | cases h
theorem XO.gl (xo : XO g cls F k c X) {x : Str} (h : glB c x = true) : Gl X x := by
  show X.env.scope.names.lookup x = _
  rw [xo.sc]
  unfold glB at h
  simpa using h
theorem plain_of {x : Str} (h : plainB x = true) : (x == ("__debug__" : Str)) = false ∧ (x == ("__classdict__" : Str)) = false := by
  unfold plainB at h
  simp only [Bool.and_eq_true, Bool.not_eq_true'] at h
  exact ⟨h.1.1, h.1.2⟩
theorem XO.stor (xo : XO g cls F k c X) {x : Str} (h : storB c x = true) : L2.Loc X.env.scope x ∧ (X.fn x = true ∨ X.env.scope.names.lookup x = some .local) := by
  unfold L2.Loc
  rw [xo.sc]
  unfold storB at h
  split at h
  · rename_i e
    exact ⟨.inl e, .inr e⟩
  · rename_i e
    exact ⟨.inr e, .inl (xo.fn x h)⟩
  · cases h
theorem chkEs_all : ∀ {es : Es} {ps : List Expr}, chkEs g es c ps = true → ps.all noStar = true ∧ (ps = [] → es = .nil)
  | .nil, ps, h => by
    unfold chkEs at h
    split at h
    · exact ⟨rfl, fun _ => rfl⟩
    · cases h
  | .cons e es, ps, h => by
    unfold chkEs at h
    split at h
    · simp only [Bool.and_eq_true] at h
      have z := chkEs_all h.1.2
      exact ⟨by simp [h.2, z.1], fun z => nomatch z⟩
    · cases h
theorem chkTs_all : ∀ {ts : Ts} {ps : List Expr}, chkTs g ts c ps = true → ps.all noStar = true
  | .nil, ps, h => by
    unfold chkTs at h
    split at h
    · rfl
    · cases h
  | .cons e es, ps, h => by
    unfold chkTs at h
    split at h
    · simp only [Bool.and_eq_true] at h
      have z := chkTs_all h.1.2
      simp [h.2, z]
    · cases h
theorem folded_of {e : Expr} {env : Env} (h : noSet e = true) (x : Value) : foldedSetIterable e env x = pure x := by
  cases e <;> first
    | rfl
    | cases h
end
section
variable {X : Cx} {cls : Nat → Addr} {Z : XZ} {F : Nat → List D → List HOb → CRes} {pe : Expr} {e : E}
theorem both (h : SE X cls Z F pe e) (hc : noCmp pe = true) : SE X cls Z F pe e ∧ (noTest pe = true → SC X cls Z F pe (.of e)) := ⟨h, fun ht => st_truth h ht hc⟩
end
mutual
theorem snd_E {g : Sg} {cls : Nat → Addr} {F : Nat → List D → List HOb → CRes} {k : Nat} : ∀ (e : E) {c : Ct} {X : Cx} {Z : XZ} {pe : Expr}, XO g cls F k c X → Takes X (WZ X.K cls Z) → chkE g e c pe = true → SE X cls Z F pe e ∧ (noTest pe = true → SC X cls Z F pe (.of e))
  | .non, c, X, Z, pe, xo, tk, h => by
    unfold chkE at h
    split at h
    · exact both (st_non) rfl
    · cases h
  | .bl b, c, X, Z, pe, xo, tk, h => by
    unfold chkE at h
    split at h
    · obtain rfl := eq_of_beq h
      exact both (st_bl) rfl
    · cases h
  | .int b, c, X, Z, pe, xo, tk, h => by
    unfold chkE at h
    split at h
    · obtain rfl := eq_of_beq h
      exact both (st_int) rfl
    · cases h
  | .str b, c, X, Z, pe, xo, tk, h => by
    unfold chkE at h
    split at h
    · obtain rfl := of_decide_eq_true h
      exact both (st_str) rfl
    · cases h
  | .var i, c, X, Z, pe, xo, tk, h => by
    unfold chkE at h
    split at h
    · simp only [Bool.and_eq_true] at h
      obtain ⟨h1, h2⟩ := plain_of h.2
      exact both (st_var (xo.ix h.1.1) (xo.vis h.1.2) h1 h2) rfl
    · cases h
  | .glob x d, c, X, Z, pe, xo, tk, h => by
    unfold chkE at h
    split at h
    · simp only [Bool.and_eq_true] at h
      obtain ⟨h1, h2⟩ := plain_of h.1.2
      obtain rfl := of_decide_eq_true h.1.1.1
      have h3 := h.2
      split at h3
      · rename_i e
        obtain rfl := eqSc_eq h3
        obtain ⟨v, u, k1, k2, k3⟩ := xo.gok.const _ _ e
        exact both (st_glob (xo.gl h.1.1.2) k2 k3 h1 k1) rfl
      · cases h3
    · cases h
  | .bin op a b, c, X, Z, pe, xo, tk, h => by
    unfold chkE at h
    split at h
    · simp only [Bool.and_eq_true] at h
      obtain rfl := of_decide_eq_true h.1.1
      exact both (st_bin ((snd_E a xo tk h.1.2).1) ((snd_E b xo tk h.2).1)) rfl
    · cases h
  | .neg a, c, X, Z, pe, xo, tk, h => by
    unfold chkE at h
    split at h
    · exact both (st_neg ((snd_E a xo tk h).1)) rfl
    · cases h
  | .not (.of a), c, X, Z, pe, xo, tk, h => by
    unfold chkE at h
    dsimp only at h
    split at h
    · exact both (st_not (snd_E a xo tk h).1) rfl
    · cases h
  | .not (.not a), c, X, Z, pe, xo, tk, h => by
    unfold chkE at h
    cases h
  | .not (.bool k a), c, X, Z, pe, xo, tk, h => by
    unfold chkE at h
    cases h
  | .cmp op a b, c, X, Z, pe, xo, tk, h => by
    unfold chkE at h
    split at h
    · simp only [Bool.and_eq_true, Bool.not_eq_true'] at h
      obtain rfl := of_decide_eq_true h.1.1.1
      exact ⟨st_cmp xo.hu (snd_E a xo tk h.1.1.2).1 (snd_E b xo tk h.1.2).1 h.2, fun _ => st_tcmp xo.hu (snd_E a xo tk h.1.1.2).1 (snd_E b xo tk h.1.2).1 h.2⟩
    · cases h
  | .chain o1 o2 a b d, c, X, Z, pe, xo, tk, h => by
    unfold chkE at h
    split at h
    · simp only [Bool.and_eq_true, Bool.not_eq_true'] at h
      obtain ⟨⟨⟨⟨⟨h1, h2⟩, h3⟩, h4⟩, h5⟩, h6⟩ := h
      obtain rfl := of_decide_eq_true h1
      obtain rfl := of_decide_eq_true h2
      exact ⟨st_chain xo.hu (snd_E a xo tk h3).1 (snd_E b xo tk h4).1 (snd_E d xo tk h5).1 h6, fun _ => st_tchain xo.hu (snd_E a xo tk h3).1 (snd_E b xo tk h4).1 (snd_E d xo tk h5).1 h6⟩
    · cases h
  | .bool isAnd es last, c, X, Z, pe, xo, tk, h => by
    have fin : ∀ {ps : List Expr} {pos : Pos}, chkL g es (fun pl => chkE g last c pl) c ps = true → SE X cls Z F (.BoolOp (opB isAnd) ps pos) (.bool isAnd es last) := fun {ps pos} q =>
      PE.weak (snd_L es xo tk (fun p hp => (snd_E last xo tk hp).1) q) fun σ H Q ⟨w, s, sr, po⟩ => ⟨w, s, sr, by unfold evE at po; exact po⟩
    unfold chkE at h
    split at h
    · simp only [Bool.and_eq_true] at h
      obtain ⟨rfl, h2⟩ := h
      exact both (fin h2) rfl
    · simp only [Bool.and_eq_true, Bool.not_eq_true'] at h
      obtain ⟨rfl, h2⟩ := h
      exact both (fin h2) rfl
    · cases h
  | .ite t a b, c, X, Z, pe, xo, tk, h => by
    unfold chkE at h
    split at h
    · simp only [Bool.and_eq_true] at h
      exact both (st_ite (snd_C t xo tk h.1.1) ((snd_E a xo tk h.1.2).1) ((snd_E b xo tk h.2).1)) rfl
    · cases h
  | .ix a i, c, X, Z, pe, xo, tk, h => by
    unfold chkE at h
    split at h
    · simp only [Bool.and_eq_true] at h
      exact both (st_ix ((snd_E a xo tk h.1.1).1) ((snd_E i xo tk h.1.2).1) h.2) rfl
    · cases h
  | .slc a lo hi, c, X, Z, pe, xo, tk, h => by
    unfold chkE at h
    split at h
    · simp only [Bool.and_eq_true] at h
      exact both (st_slc ((snd_E a xo tk h.1.1).1) (snd_P lo xo tk h.1.2) (snd_P hi xo tk h.2)) rfl
    · cases h
  | .tup es, c, X, Z, pe, xo, tk, h => by
    unfold chkE at h
    split at h
    · exact both (st_tup (snd_Es es xo tk h).2) rfl
    · cases h
  | .lst es, c, X, Z, pe, xo, tk, h => by
    unfold chkE at h
    split at h
    · exact both (st_lst (snd_Es es xo tk h).2) rfl
    · cases h
  | .box es, c, X, Z, pe, xo, tk, h => by
    unfold chkE at h
    split at h
    · exact both (st_box (snd_Es es xo tk h).2) rfl
    · cases h
  | .call f es, c, X, Z, pe, xo, tk, h => by
    unfold chkE at h
    split at h
    · simp only [Bool.and_eq_true] at h
      obtain ⟨fa, fd, ps, k1, k2, k3, k4, k5⟩ := xo.gok.fn f _ (of_decide_eq_true h.1.1.1)
      have al := chkEs_all h.2
      exact both (st_call k4 k5 xo.room xo.grd (xo.gl h.1.1.2) k1 k2 k3 tk (plain_of h.1.2).1 (snd_Es es xo tk h.2).2 al.1 al.2) rfl
    · cases h
  | .bi b es, c, X, Z, pe, xo, tk, h => by
    unfold chkE at h
    split at h
    · simp only [Bool.and_eq_true] at h
      obtain ⟨⟨⟨⟨h1, h2⟩, h3⟩, h4⟩, h5⟩ := h
      obtain rfl := of_decide_eq_true h1
      have al := chkEs_all h4
      rename_i pes _
      cases pes with
      | nil => cases h5
      | cons p ps => exact both (st_bi xo.calm xo.grd xo.hu2 (xo.gl h3) (xo.gok.blt _ h2) (snd_Es es xo tk h4).1 al.1) rfl
    · cases h
  | .bm m a es, c, X, Z, pe, xo, tk, h => by
    unfold chkE at h
    split at h
    · simp only [Bool.and_eq_true] at h
      obtain ⟨⟨⟨⟨⟨h1, h2⟩, h3⟩, h4⟩, h5⟩, h6⟩ := h
      obtain rfl := of_decide_eq_true h1
      have al := chkEs_all h5
      exact both (st_bm ((snd_E a xo tk h4).1) (snd_Es es xo tk h5).2 al.1 h3 h2 (of_decide_eq_true h6) al.2) rfl
    · cases h
  | .attr C a f, c, X, Z, pe, xo, tk, h => by
    unfold chkE at h
    cases h
  | .meth C m a es, c, X, Z, pe, xo, tk, h => by
    unfold chkE at h
    cases h
  | .mk C m es, c, X, Z, pe, xo, tk, h => by
    unfold chkE at h
    cases h
  | .lc elt t it ifs vs, c, X, Z, pe, xo, tk, h => by
    unfold chkE at h
    split at h
    · simp only [Bool.and_eq_true] at h
      obtain ⟨⟨⟨⟨⟨⟨⟨⟨h1, h2⟩, h3⟩, h4⟩, h5⟩, h6⟩, h7⟩, h8⟩, h9⟩ := h
      refine both (st_lc xo.calm xo.hN (snd_I it xo tk h1) ?_ ?_ ?_ (fun s H C cl fp => snd_T t (xo.blk s H _ cl C fp) takes_no h7) (fun s H C cl fp => (snd_Cs ifs (xo.blk s H _ cl C fp) takes_no h8).2 (of_decide_eq_true h3)) (fun s H C cl fp => (snd_E elt (xo.blk s H _ cl C fp) takes_no h9).1) (folded_of h2)) rfl
      · rw [xo.N, xo.sc]
        exact blkOk_by h4
      · rw [xo.N]
        exact of_decide_eq_true h5
      · intro i hi
        have z := List.all_eq_true.mp h6 i hi
        simpa using z
    · cases h
theorem snd_L {g : Sg} {cls : Nat → Addr} {F : Nat → List D → List HOb → CRes} {k : Nat} : ∀ (es : Es) {c : Ct} {X : Cx} {Z : XZ} {ps : List Expr} {kE : Expr → Bool} {r : MSt → Res D} {b : Bool} {pos : Pos}, XO g cls F k c X → Takes X (WZ X.K cls Z) → (∀ p, kE p = true → PE X p (tG X.K cls Z (RD X.K) r)) →
    chkL g es kE c ps = true → PE X (.BoolOp (opB b) ps pos) (tG X.K cls Z (RD X.K) (evBool F b es r))
  | .nil, c, X, Z, ps, kE, r, b, pos, xo, tk, hl, h => by
    unfold chkL at h
    split at h
    · exact PE.weak (st_bool1 (hl _ h)) fun σ H Q ⟨w, s, sr, po⟩ => ⟨w, s, sr, by unfold evBool at po; exact po⟩
    · cases h
  | .cons e es, c, X, Z, ps, kE, r, b, pos, xo, tk, hl, h => by
    unfold chkL at h
    split at h
    · simp only [Bool.and_eq_true] at h
      exact st_bool ((snd_E e xo tk h.1).1) (snd_L es xo tk hl h.2)
    · cases h
theorem snd_Es {g : Sg} {cls : Nat → Addr} {F : Nat → List D → List HOb → CRes} {k : Nat} : ∀ (es : Es) {c : Ct} {X : Cx} {Z : XZ} {ps : List Expr}, XO g cls F k c X → Takes X (WZ X.K cls Z) → chkEs g es c ps = true → SEs X cls Z F ps es ∧ SFs X cls Z F ps es
  | .nil, c, X, Z, ps, xo, tk, h => by
    unfold chkEs at h
    split at h
    · exact ⟨st_enil, st_fnil⟩
    · cases h
  | .cons e es, c, X, Z, ps, xo, tk, h => by
    unfold chkEs at h
    split at h
    · simp only [Bool.and_eq_true] at h
      have h1 := (snd_E e xo tk h.1.1).1
      have h2 := snd_Es es xo tk h.1.2
      exact ⟨st_econs h1 h2.1 h.2, st_fcons h1 h2.2 h.2⟩
    · cases h
theorem snd_C {g : Sg} {cls : Nat → Addr} {F : Nat → List D → List HOb → CRes} {k : Nat} : ∀ (t : C) {c : Ct} {X : Cx} {Z : XZ} {pe : Expr}, XO g cls F k c X → Takes X (WZ X.K cls Z) → chkC g t c pe = true → SC X cls Z F pe t
  | .of e, c, X, Z, pe, xo, tk, h => by
    unfold chkC at h
    simp only [Bool.and_eq_true] at h
    exact (snd_E e xo tk h.1).2 h.2
  | .not t, c, X, Z, pe, xo, tk, h => by
    unfold chkC at h
    split at h
    · exact st_cnot (snd_C t xo tk h)
    · cases h
  | .bool isAnd cs, c, X, Z, pe, xo, tk, h => by
    unfold chkC at h
    split at h
    · simp only [Bool.and_eq_true] at h
      obtain ⟨⟨rfl, h2⟩, h3⟩ := h
      exact st_cbool (k := true) ((snd_Cs cs xo tk h2).1 (by simpa using h3))
    · simp only [Bool.and_eq_true, Bool.not_eq_true'] at h
      obtain ⟨⟨rfl, h2⟩, h3⟩ := h
      exact st_cbool (k := false) ((snd_Cs cs xo tk h2).1 (by simpa using h3))
    · cases h
theorem snd_Cs {g : Sg} {cls : Nat → Addr} {F : Nat → List D → List HOb → CRes} {k : Nat} : ∀ (cs : Cs) {c : Ct} {X : Cx} {Z : XZ} {ps : List Expr}, XO g cls F k c X → Takes X (WZ X.K cls Z) → chkCs g cs c ps = true →
    (∀ {b : Bool} {pos : Pos}, ps ≠ [] → PW X (.BoolOp (opB b) ps pos) (rCs X.K cls Z F b cs)) ∧ (ps.length ≤ 1 → PTs X ps (rCs X.K cls Z F true cs))
  | .nil, c, X, Z, ps, xo, tk, h => by
    unfold chkCs at h
    split at h
    · exact ⟨fun z => absurd rfl z, fun _ => st_pts0⟩
    · cases h
  | .cons t cs, c, X, Z, ps, xo, tk, h => by
    unfold chkCs at h
    split at h
    · rename_i p ps
      simp only [Bool.and_eq_true] at h
      have h1 := snd_C t xo tk h.1
      have h2 := snd_Cs cs xo tk h.2
      cases ps with
      | nil =>
        cases cs with
        | nil => exact ⟨fun _ => st_cs1 h1, fun _ => st_pts1 h1⟩
        | cons t2 cs2 =>
          have h3 := h.2
          unfold chkCs at h3
          cases h3
      | cons q qs => exact ⟨fun _ => st_cs h1 (h2.1 (fun z => nomatch z)), fun z => absurd z (by simp)⟩
    · cases h
theorem snd_P {g : Sg} {cls : Nat → Addr} {F : Nat → List D → List HOb → CRes} {k : Nat} : ∀ (p : P) {c : Ct} {X : Cx} {Z : XZ} {pe : Option Expr}, XO g cls F k c X → Takes X (WZ X.K cls Z) → chkP g p c pe = true → SP0 X cls Z F pe p
  | .absent, c, X, Z, pe, xo, tk, h => by
    unfold chkP at h
    split at h
    · exact st_absent
    · cases h
  | .of e, c, X, Z, pe, xo, tk, h => by
    unfold chkP at h
    split at h
    · exact st_part ((snd_E e xo tk h).1)
    · cases h
theorem snd_I {g : Sg} {cls : Nat → Addr} {F : Nat → List D → List HOb → CRes} {k : Nat} : ∀ (it : I) {c : Ct} {X : Cx} {Z : XZ} {pe tg : Expr} {lk : Bool}, XO g cls F k c X → Takes X (WZ X.K cls Z) → chkI g it c pe tg = true → SI X cls Z F lk tg pe it
  | .of e, c, X, Z, pe, tg, lk, xo, tk, h => by
    unfold chkI at h
    exact st_iof ((snd_E e xo tk h).1)
  | .enum e, c, X, Z, pe, tg, lk, xo, tk, h => by
    unfold chkI at h
    split at h
    · simp only [Bool.and_eq_true] at h
      obtain ⟨⟨⟨⟨⟨h1, h2⟩, h3⟩, h4⟩, h5⟩, h6⟩ := h
      obtain rfl := of_decide_eq_true h1
      split at h6
      · exact st_ienum (xo.gl h3) (xo.gok.blt _ h2) ((snd_E e xo tk h4).1) h5
      · cases h6
    · cases h
  | .zip a b, c, X, Z, pe, tg, lk, xo, tk, h => by
    unfold chkI at h
    cases h
  | .rng a, c, X, Z, pe, tg, lk, xo, tk, h => by
    unfold chkI at h
    split at h
    · simp only [Bool.and_eq_true] at h
      obtain ⟨⟨⟨⟨h1, h2⟩, h3⟩, h4⟩, h5⟩ := h
      obtain rfl := of_decide_eq_true h1
      exact st_irng (xo.gl h3) (xo.gok.blt _ h2) ((snd_E a xo tk h4).1) h5
    · cases h
  | .rng2 a b, c, X, Z, pe, tg, lk, xo, tk, h => by
    unfold chkI at h
    split at h
    · simp only [Bool.and_eq_true] at h
      obtain ⟨⟨⟨⟨⟨⟨h1, h2⟩, h3⟩, h4⟩, h5⟩, h6⟩, h7⟩ := h
      obtain rfl := of_decide_eq_true h1
      exact st_irng2 (xo.gl h3) (xo.gok.blt _ h2) ((snd_E a xo tk h4).1) ((snd_E b xo tk h5).1) h6 h7
    · cases h
theorem snd_T {g : Sg} {cls : Nat → Addr} {F : Nat → List D → List HOb → CRes} {k : Nat} : ∀ (t : T) {c : Ct} {X : Cx} {Z : XZ} {pe : Expr}, XO g cls F k c X → Takes X (WZ X.K cls Z) → chkT g t c pe = true → ST X cls Z F pe t
  | .name i, c, X, Z, pe, xo, tk, h => by
    unfold chkT at h
    split at h
    · simp only [Bool.and_eq_true] at h
      obtain ⟨h1, h2⟩ := xo.stor h.2
      exact st_tname xo.hN (xo.ix h.1) h1 h2
    · cases h
  | .tup ts, c, X, Z, pe, xo, tk, h => by
    unfold chkT at h
    split at h
    · simp only [Bool.and_eq_true] at h
      exact st_ttup xo.calm (snd_Ts ts xo tk h.1) (chkTs_all h.1) (of_decide_eq_true h.2)
    · cases h
  | .ix a i, c, X, Z, pe, xo, tk, h => by
    unfold chkT at h
    split at h
    · simp only [Bool.and_eq_true] at h
      exact st_tix ((snd_E a xo tk h.1.1).1) ((snd_E i xo tk h.1.2).1) h.2
    · cases h
  | .attr C a f, c, X, Z, pe, xo, tk, h => by
    unfold chkT at h
    cases h
theorem snd_Ts {g : Sg} {cls : Nat → Addr} {F : Nat → List D → List HOb → CRes} {k : Nat} : ∀ (ts : Ts) {c : Ct} {X : Cx} {Z : XZ} {ps : List Expr}, XO g cls F k c X → Takes X (WZ X.K cls Z) → chkTs g ts c ps = true → STs X cls Z F ps ts
  | .nil, c, X, Z, ps, xo, tk, h => by
    unfold chkTs at h
    split at h
    · exact st_tnil
    · cases h
  | .cons t ts, c, X, Z, ps, xo, tk, h => by
    unfold chkTs at h
    split at h
    · simp only [Bool.and_eq_true] at h
      exact st_tcons (snd_T t xo tk h.1.1) (snd_Ts ts xo tk h.1.2) h.2
    · cases h
end
end MP
end
section
set_option maxRecDepth 100000
set_option maxHeartbeats 1000000
set_option autoImplicit false
/-! MPu: statements. -/
namespace MP
open PySem PySem.Spec PyProof.Rows L2
section
variable (K : PySem.W.Frag) (cls : Nat → Addr) (Z : XZ) (F : Nat → List D → List HOb → CRes)
def PostS (o : Out) (w0 : Wd) (H0 : Hp) (D : Ends) : Prop :=
  match o with
  | .nx s => ∀ w σ H, ExtS w0 H0 w H → SR K cls w s σ H → D.nx σ H
  | .bk s => ∀ w σ H, ExtS w0 H0 w H → SR K cls w s σ H → D.bk σ H
  | .ct s => ∀ w σ H, ExtS w0 H0 w H → SR K cls w s σ H → D.ct σ H
  | .rt d s => ∀ w σ H v, ExtS w0 H0 w H → SR K cls w s σ H → Rp K w σ H d v → New w0 d v → D.rt v H
  | .ex c fs s => ∀ w σ H, ExtS w0 H0 w H → SR K cls w s σ H → Z c fs s w σ H
  | .stuck => False
def tG0 (r : MSt → Out) : TS := fun D σ H => ∃ w s, SR K cls w s σ H ∧ PostS K cls Z (r s) w H D
abbrev tSt (st : S) : TS := tG0 K cls Z (evS F st)
abbrev tSs (st : Ss) : TS := tG0 K cls Z (evSs F st)
end
theorem New.backS {tm : Bool} {w0 w1 : Wd} {H0 H1 : Hp} {d : D} {v : V} (e : ExtB tm w0 H0 w1 H1) (h : New w1 d v) : New w0 d v := by
  cases d with
  | nw xs =>
    obtain ⟨a, rfl, n⟩ := h
    refine ⟨a, rfl, ?_⟩
    cases q : w0.own a with
    | none => rfl
    | some o =>
      obtain ⟨o', z⟩ := e.som a o q
      rw [n] at z
      cases z
  | _ => trivial
section
variable {K : PySem.W.Frag} {cls : Nat → Addr} {Z : XZ} {F : Nat → List D → List HOb → CRes} {w w1 : Wd} {H H1 : Hp} {σ : L2.St} {s : MSt} {D : Ends} {α β : Type} {R : RelT α β}
theorem PostS.rebase {o : Out} (h : PostS K cls Z o w H D) (e : ExtS w H w1 H1) : PostS K cls Z o w1 H1 D := by
  cases o with
  | nx s => exact fun w2 σ H2 e2 => h w2 σ H2 (e.trans e2)
  | bk s => exact fun w2 σ H2 e2 => h w2 σ H2 (e.trans e2)
  | ct s => exact fun w2 σ H2 e2 => h w2 σ H2 (e.trans e2)
  | rt d s => exact fun w2 σ H2 v e2 sr r n => h w2 σ H2 v (e.trans e2) sr r (n.backS e)
  | ex c fs s => exact fun w2 σ H2 e2 => h w2 σ H2 (e.trans e2)
  | stuck => exact h
theorem PostS.ends {o : Out} {D' : Ends} (h : PostS K cls Z o w H D) (e : D.rt = D'.rt) (nx : ∀ w2 s σ H2, o = .nx s → ExtS w H w2 H2 → SR K cls w2 s σ H2 → D.nx σ H2 → D'.nx σ H2)
    (bk : ∀ w2 s σ H2, o = .bk s → ExtS w H w2 H2 → SR K cls w2 s σ H2 → D.bk σ H2 → D'.bk σ H2) (ct : ∀ w2 s σ H2, o = .ct s → ExtS w H w2 H2 → SR K cls w2 s σ H2 → D.ct σ H2 → D'.ct σ H2) : PostS K cls Z o w H D' := by
  cases o with
  | nx s => exact fun w2 σ H2 e2 sr => nx w2 s σ H2 rfl e2 sr (h w2 σ H2 e2 sr)
  | bk s => exact fun w2 σ H2 e2 sr => bk w2 s σ H2 rfl e2 sr (h w2 σ H2 e2 sr)
  | ct s => exact fun w2 σ H2 e2 sr => ct w2 s σ H2 rfl e2 sr (h w2 σ H2 e2 sr)
  | rt d s => exact fun w2 σ H2 v e2 sr r n => by rw [← e]; exact h w2 σ H2 v e2 sr r n
  | ex c fs s => exact h
  | stuck => exact h
/-- a part's outcome within a statement's -/
theorem PostS.bindG {r : Res α} {k : α → MSt → Out} (h : PostS K cls Z (r.toOut k) w H D) :
    PostG K cls Z R r w H σ (fun b H2 => ∃ w2 a s2, Ext w H w2 H2 ∧ SR K cls w2 s2 σ H2 ∧ R w H w2 σ H2 a b ∧ PostS K cls Z (k a s2) w H D) := by
  cases r with
  | ok a s => exact fun w' b H' e sr rr => ⟨w', a, s, e, sr, rr, h⟩
  | ex c fs s => exact fun w' H' e sr => h w' σ H' e.weak sr
  | stuck => exact h
theorem PostS.opt {o : Option α} {k : α → MSt → Out} (h : PostS K cls Z ((MP.opt o s).toOut k) w H D) : ∃ a, o = some a ∧ PostS K cls Z (k a s) w H D := by
  cases o with
  | none => exact h.elim
  | some a => exact ⟨a, rfl, h⟩
end
section
variable {X : Cx} {cls : Nat → Addr} {Z : XZ} {F : Nat → List D → List HOb → CRes} {pos : Pos}
variable {pe pt pit : Expr} {e : E} {t : T} {c : C} {it : I} {st : Stmt} {pb pa : List Stmt} {a b : Ss}
theorem PS.weak {st : Stmt} {t t' : TS} (h : PS X st t) (i : ∀ D σ H, t' D σ H → t D σ H) : PS X st t' := ⟨fun pins s σ H D I q => h.run pins s σ H D I (i D σ H q)⟩
theorem PSs.weak {st : List Stmt} {t t' : TS} (h : PSs X st t) (i : ∀ D σ H, t' D σ H → t D σ H) : PSs X st t' := ⟨fun pins s σ H D I q => h.run pins s σ H D I (i D σ H q)⟩
abbrev SS (X : Cx) (cls : Nat → Addr) (Z : XZ) (F : Nat → List D → List HOb → CRes) (st : Stmt) (s : S) : Prop := PS X st (tSt X.K cls Z F s)
abbrev SSs (X : Cx) (cls : Nat → Addr) (Z : XZ) (F : Nat → List D → List HOb → CRes) (st : List Stmt) (s : Ss) : Prop := PSs X st (tSs X.K cls Z F s)
theorem swap_no {e : Expr} {o : Option Expr} {l : Nat} {env : Env} (h : noComp e = true) : swapsWith e o l env = pure false := by
  cases e <;> first
    | rfl
    | cases h
theorem ss_expr (h : SE X cls Z F pe e) (hn : noComp pe = true) : SS X cls Z F (.Expr pe pos) (.expr e) :=
  PS.weak (ps_expr h (swap_no hn)) fun D σ H ⟨w, s, sr, po⟩ => by
    unfold evS at po
    exact ⟨w, s, sr, (PostS.bindG po).imp fun x H1 ⟨w1, d, s1, e1, sr1, r1, po1⟩ => po1 w1 σ H1 e1.weak sr1⟩
theorem asg_read {K : PySem.W.Frag} {D : Ends} {σ : L2.St} {H : Hp} (q : tSt K cls Z F (.asg t e) D σ H) : tAsg (rE K cls Z F e) (gT K cls Z F t) D σ H := by
  obtain ⟨w, s, sr, po⟩ := q
  unfold evS at po
  refine ⟨w, s, sr, (PostS.bindG po).imp fun x H1 ⟨w1, d, s1, e1, sr1, r1, po1⟩ => ⟨false, w, H, w1, s1, d, e1.weak, sr1, r1.1, r1.2, ?_⟩⟩
  cases q : asgT F t d s1 with
  | ok u s2 =>
    rw [q] at po1
    exact fun w' σ' H' e' sr' _ => po1 w' σ' H' e' sr'
  | ex c fs s2 =>
    rw [q] at po1
    exact fun w' σ' H' e' sr' => po1 w' σ' H' e' sr'
  | stuck =>
    rw [q] at po1
    exact po1
theorem swapped_no {pt pe : Expr} {env : Env} (h1 : noLst pt = true) (h2 : (noTup pe || noTup pt) = true) : swappedStores [pt] pe env = pure none := by
  cases pt with
  | Tuple _ _ _ => cases pe <;> first
    | rfl
    | cases h2
  | List _ _ => cases h1
  | _ => rfl
theorem each_one {p : Expr} {env : Env} (h : noStar p = true) : (assignEach [p] env).map (·.2) = [assign p env] := by
  cases p <;> first
    | rfl
    | cases h
theorem ss_asg (h : SE X cls Z F pe e) (ht : ST X cls Z F pt t) (h1 : noStar pt = true) (h2 : noLst pt = true) (h3 : noComp pe = true) (h4 : (noTup pe || noTup pt) = true) : SS X cls Z F (.Assign [pt] pe pos) (.asg t e) :=
  PS.weak (ps_asg h ht (swap_no h3) (swapped_no h2 h4) (each_one h1)) fun D σ H q => asg_read q
theorem gT_name {K : PySem.W.Frag} {i : Nat} {v : V} {σ : L2.St} {H : Hp} {Q : L2.St → Hp → Prop} (q : gT K cls Z F (.name i) v σ H Q) : gName i v σ H Q := by
  obtain ⟨tm, w0, H0, w, s, d, e, sr, r, n, po⟩ := q
  unfold asgT at po
  obtain ⟨s1, es, po1⟩ := PostA.opt po
  obtain ⟨w', k1, k2⟩ := storeS_ok sr r es
  exact po1 w' _ H (k2 tm w0 H0 e n) k1 Only.set
theorem ss_setLc {i : Nat} {y : Str} {py : Pos} (h : PS X (.Assign [.Name y py] pe pos) (tAsg (rE X.K cls Z F e) (gName i))) : SS X cls Z F (.Assign [.Name y py] pe pos) (.asg (.name i) e) :=
  PS.weak h fun D σ H q => by
    have q' : rE X.K cls Z F e σ H (fun x H1 => gT X.K cls Z F (.name i) x σ H1 D.nx) := asg_read q
    exact tG.imp q' fun x H1 z => gT_name z
theorem ss_aug {i : Nat} {x : Str} {op : Operator} {p : Pos} (hN : X.N.Nodup) (hi : X.N[i]? = some x) (hx : L2.Loc X.env.scope x) (hf : X.fn x = true ∨ X.env.scope.names.lookup x = some .local) (h : SE X cls Z F pe e) (ho : op = .Add ∨ op = .Sub) : SS X cls Z F (.AugAssign (.Name x p) op pe pos) (.aug i op e) := by
  have go : ∀ (g : Int → Int → Int), (∀ a b z, augD op (.int a) (.int b) = some z → z = .int (g a b)) → ∀ D σ H, tSt X.K cls Z F (.aug i op e) D σ H → tAug i (rE X.K cls Z F e) (ipI g) D σ H := fun g hg D σ H ⟨w, s, sr, po⟩ => by
    unfold evS at po
    obtain ⟨d, ed, po1⟩ := PostS.opt po
    obtain ⟨v, h1, h2⟩ := readVar_ok sr ed
    refine ⟨v, h1, w, s, sr, (PostS.bindG po1).imp fun y H1 ⟨w1, dy, s1, e1, sr1, r1, po2⟩ => ?_⟩
    obtain ⟨z, ez, po3⟩ := PostS.opt po2
    have sh : ∃ a b, d = .int a ∧ dy = .int b := by
      unfold augD at ez
      split at ez
      · exact ⟨_, _, rfl, rfl⟩
      · cases ez
    obtain ⟨a, b, rfl, rfl⟩ := sh
    obtain rfl := hg a b z ez
    refine ⟨a, b, rp_int h2.1, rp_int r1.1, ?_⟩
    exact po3 w1 _ H1 e1.weak (SR.assign sr1 (by unfold Rv; rfl))
  rcases ho with rfl | rfl
  · exact PS.weak (ps_aug hN hi hx h ip_add hf) (go _ fun a b z h => by cases h; rfl)
  · exact PS.weak (ps_aug hN hi hx h ip_sub hf) (go _ fun a b z h => by cases h; rfl)
theorem ss_ite (hc : SC X cls Z F pe c) (ha : SSs X cls Z F pa a) (hb : SSs X cls Z F pb b) : SS X cls Z F (.If pe pa pb pos) (.ite c a b) :=
  PS.weak (ps_if hc ha hb) fun D σ H ⟨w, s, sr, po⟩ => by
    unfold evS at po
    exact ⟨w, s, sr, (PostS.bindG po).imp fun x H1 ⟨w1, k, s1, e1, sr1, r1, po1⟩ => by
      have r1' : k = x := r1
      subst r1'
      cases k with
      | true => exact ⟨w1, s1, sr1, PostS.rebase po1 e1.weak⟩
      | false => exact ⟨w1, s1, sr1, PostS.rebase po1 e1.weak⟩⟩
theorem ss_ret (h : SE X cls Z F pe e) : SS X cls Z F (.Return (some pe) pos) (.ret e) :=
  PS.weak (ps_ret h) fun D σ H ⟨w, s, sr, po⟩ => by
    unfold evS at po
    exact ⟨w, s, sr, (PostS.bindG po).imp fun x H1 ⟨w1, d, s1, e1, sr1, r1, po1⟩ => po1 w1 σ H1 x e1.weak sr1 r1.1 r1.2⟩
theorem ss_retN : SS X cls Z F (.Return none pos) .retN := PS.weak ps_retN fun D σ H ⟨w, s, sr, po⟩ => by
  unfold evS at po
  exact po w σ H .non ExtB.refl sr (by show Rv X.K w H .non _; unfold Rv; rfl) trivial
theorem ss_brk : SS X cls Z F (.Break pos) .brk := PS.weak ps_break fun D σ H ⟨w, s, sr, po⟩ => by
  unfold evS at po
  exact po w σ H ExtB.refl sr
theorem ss_cnt : SS X cls Z F (.Continue pos) .cnt := PS.weak ps_continue fun D σ H ⟨w, s, sr, po⟩ => by
  unfold evS at po
  exact po w σ H ExtB.refl sr
theorem ss_pass : SS X cls Z F (.Pass pos) .pass := PS.weak ps_pass fun D σ H ⟨w, s, sr, po⟩ => by
  unfold evS at po
  exact po w σ H ExtB.refl sr
theorem ss_never : SS X cls Z F st .never := PS.weak ps_never fun D σ H ⟨w, s, sr, po⟩ => by
  unfold evS at po
  exact po.elim
theorem ss_nil : SSs X cls Z F [] .nil := PSs.weak pss_nil fun D σ H ⟨w, s, sr, po⟩ => by
  unfold evSs at po
  exact po w σ H ExtB.refl sr
theorem ss_kill {is : List Nat} {ps : List Stmt} (h : SSs X cls Z F ps b) : SSs X cls Z F ps (.cons (.kill is) b) := PSs.weak h fun D σ H ⟨w, s, sr, po⟩ => by
  unfold evSs evS at po
  exact ⟨w, kill is s, kill_sr sr, po⟩
theorem ss_cons {x : S} {ps : List Stmt} (h1 : SS X cls Z F st x) (h2 : SSs X cls Z F ps b) : SSs X cls Z F (st :: ps) (.cons x b) := PSs.weak (pss_cons h1 h2) fun D σ H ⟨w, s, sr, po⟩ => by
  unfold evSs at po
  refine ⟨w, s, sr, ?_⟩
  cases q : evS F x s with
  | nx s1 =>
    rw [q] at po
    exact fun w' σ' H' e' sr' => ⟨w', s1, sr', PostS.rebase po e'⟩
  | bk s1 => rw [q] at po; exact po
  | ct s1 => rw [q] at po; exact po
  | rt d s1 => rw [q] at po; exact po
  | ex c fs s1 => rw [q] at po; exact po
  | stuck => rw [q] at po; exact po
/-! ### loops -/
theorem ss_whl (hp : PassesOwn (model X.prog X.w) X.A X.env X.xe) (hc : SC X cls Z F pe c) (hb : SSs X cls Z F pb b) : SS X cls Z F (.While pe pb [] pos) (.whl c b) :=
  PS.weak (ps_while hp hc hb) fun D σ H ⟨w, s, sr, po⟩ => by
    unfold evS at po
    refine ⟨fun m σ H => ∃ w s, SR X.K cls w s σ H ∧ PostS X.K cls Z (whileD (fun s1 => evC F c s1) (fun s1 => evSs F b s1) m s) w H D, ⟨1000000, w, s, sr, po⟩, ?_⟩
    rintro m σ H ⟨w, s, sr, po⟩
    cases m with
    | zero => exact po.elim
    | succ m =>
      unfold whileD at po
      refine ⟨w, s, sr, (PostS.bindG po).imp fun x H1 ⟨w1, k, s1, e1, sr1, r1, po1⟩ => ?_⟩
      have r1' : k = x := r1
      subst r1'
      cases k with
      | false => exact po1 w1 σ H1 e1.weak sr1
      | true =>
        simp only [if_true] at po1 ⊢
        refine ⟨fun σ H => ∃ w s, SR X.K cls w s σ H ∧ PostS X.K cls Z (whileD (fun s1 => evC F c s1) (fun s1 => evSs F b s1) m s) w H D, fun σ' H' z => ⟨m, Nat.lt_succ_self m, z⟩, w1, s1, sr1, ?_⟩
        cases q : evSs F b s1 with
        | nx s2 =>
          rw [q] at po1
          exact fun w2 σ2 H2 e2 sr2 => ⟨w2, s2, sr2, PostS.rebase po1 (e1.weak.trans e2)⟩
        | ct s2 =>
          rw [q] at po1
          exact fun w2 σ2 H2 e2 sr2 => ⟨w2, s2, sr2, PostS.rebase po1 (e1.weak.trans e2)⟩
        | bk s2 =>
          rw [q] at po1
          exact fun w2 σ2 H2 e2 sr2 => po1 w2 σ2 H2 (e1.weak.trans e2) sr2
        | rt d s2 =>
          rw [q] at po1
          exact PostS.rebase (o := .rt d s2) po1 e1.weak
        | ex c fs s2 =>
          rw [q] at po1
          exact PostS.rebase (o := .ex c fs s2) po1 e1.weak
        | stuck =>
          rw [q] at po1
          exact po1
theorem ss_for (hp : PassesOwn (model X.prog X.w) X.A X.env X.xe) (hc : X.calm = true) (hi : SI X cls Z F false pt pit it) (ht : ST X cls Z F pt t) (hb : SSs X cls Z F pb b) (hs : noSet pit = true) : SS X cls Z F (.For pt pit pb [] pos) (.forr t it b) :=
  PS.weak (ps_for hp hc hi ht hb (folded_of hs)) fun D σ H ⟨w, s, sr, po⟩ => by
    unfold evS at po
    refine ⟨w, s, sr, (PostS.bindG po).imp fun J H1 ⟨w1, p, s1, e1, sr1, r1, po1⟩ => ?_⟩
    obtain ⟨G, Y, wk, hG, hY⟩ := r1.it
    refine for_it wk (fun i σ H => ∃ w s, ExtS w1 H1 w H ∧ SR X.K cls w s σ H ∧ PostS X.K cls Z (forD (p.1.drop i) (fun x s2 => (asgT F t x s2).toOut fun _ s3 => evSs F b s3) s) w H D) ?_ ?_ ?_ ?_
    · exact ⟨w1, s1, ExtB.refl, sr1, PostS.rebase po1 e1.weak⟩
    · intro i σ' H' _ ⟨w', s', e, _⟩
      exact hG false w' H' e
    · intro i x σ' Hc H' hlt ⟨w', s', e, sr', po'⟩ y
      obtain ⟨d, w2, hd, sr2, e2, rd⟩ := hY false w' Hc i x H' s' σ' e sr' hlt y
      have dr : p.1.drop i = d :: p.1.drop (i + 1) := by
        rw [List.drop_eq_getElem_cons hlt]
        have z := List.getElem?_eq_some_iff.mp hd
        rw [z.2]
      rw [dr] at po'
      unfold forD at po'
      have po2 := PostS.rebase po' e2.weak
      have e02 : ExtS w1 H1 w2 H' := e.trans e2.weak
      refine ⟨false, w2, H', w2, s', d, ExtB.refl, sr2, rd.rp, (rd_of (w0 := w2) (H0 := H') (σ := σ') rd).2, ?_⟩
      cases q : asgT F t d s' with
      | stuck => rw [q] at po2; exact po2.elim
      | ex c fs s3 =>
        rw [q] at po2
        exact fun w3 σ3 H3 e3 sr3 => po2 w3 σ3 H3 e3 sr3
      | ok u s3 =>
        rw [q] at po2
        refine fun w3 σ3 H3 e3 sr3 _ => ⟨w3, s3, sr3, ?_⟩
        simp only [toOut_ok] at po2
        have po3 := PostS.rebase po2 e3
        cases q2 : evSs F b s3 with
        | nx s4 =>
          rw [q2] at po3
          exact fun w4 σ4 H4 e4 sr4 => ⟨w4, s4, (e02.trans e3).trans e4, sr4, PostS.rebase po3 e4⟩
        | ct s4 =>
          rw [q2] at po3
          exact fun w4 σ4 H4 e4 sr4 => ⟨w4, s4, (e02.trans e3).trans e4, sr4, PostS.rebase po3 e4⟩
        | bk s4 => rw [q2] at po3; exact po3
        | rt d s4 => rw [q2] at po3; exact po3
        | ex c fs s4 => rw [q2] at po3; exact po3
        | stuck => rw [q2] at po3; exact po3
    · intro σ' H' ⟨w', s', e, sr', po'⟩
      rw [List.drop_length] at po'
      unfold forD at po'
      exact po' w' σ' H' ExtB.refl sr'
end
end MP
end
section
set_option maxRecDepth 100000
set_option maxHeartbeats 1000000
set_option autoImplicit false
/-! MPv: the checker is right: statements. -/
namespace MP
open PySem PySem.Spec PyProof.Rows L2
theorem chk_setLc {g : Sg} {cls : Nat → Addr} {F : Nat → List D → List HOb → CRes} {k : Nat} {c : Ct} {X : Cx} {Z : XZ} {t : T} {e : E} {pelt : Expr} {gs : List Comprehension} {scope : Scope} {lpos spos py : Pos} {y : Str} (xo : XO g cls F k c X) (tk : Takes X (WZ X.K cls Z))
    (h1 : chkE g e c (.ListComp pelt gs scope lpos) = true) (h2 : chkT g t c (.Name y py) = true) (h3 : (scope.names.any fun (n, k) => n == y && (k == .local || k == .cell)) = false) (h4 : (py.line == lpos.line) = true) (h5 : c.sc.names.lookup y = some .local) :
    SS X cls Z F (.Assign [.Name y py] (.ListComp pelt gs scope lpos) spos) (.asg t e) := by
  cases t with
  | name i =>
    unfold chkT at h2
    simp only [Bool.and_eq_true] at h2
    have hy := xo.ix h2.1
    have hl : X.env.scope.names.lookup y = some .local := by rw [xo.sc]; exact h5
    cases e with
    | lc elt t it ifs vs =>
      unfold chkE at h1
      split at h1
      · rename_i heq
        cases heq
        simp only [Bool.and_eq_true] at h1
        obtain ⟨⟨⟨⟨⟨⟨⟨⟨h1, h2⟩, h3'⟩, h4'⟩, h5'⟩, h6⟩, h7⟩, h8⟩, h9⟩ := h1
        refine ss_setLc (st_setLc xo.calm xo.hN hy hl h4 h3 (snd_I it xo tk h1) ?_ ?_ ?_ (fun s H C cl fp => snd_T t (xo.blk s H _ cl C fp) takes_no h7) (fun s H C cl fp => (snd_Cs ifs (xo.blk s H _ cl C fp) takes_no h8).2 (of_decide_eq_true h3')) (fun s H C cl fp => (snd_E elt (xo.blk s H _ cl C fp) takes_no h9).1) (folded_of h2))
        · rw [xo.N, xo.sc]
          exact blkOk_by h4'
        · rw [xo.N]
          exact of_decide_eq_true h5'
        · intro i hi
          have z := List.all_eq_true.mp h6 i hi
          simpa using z
      · cases h1
    | not c' => cases c' <;> (unfold chkE at h1; cases h1)
    | _ => unfold chkE at h1; cases h1
  | tup ts => unfold chkT at h2; cases h2
  | ix a b => unfold chkT at h2; cases h2
  | attr C a f => unfold chkT at h2; cases h2
mutual
theorem snd_S {g : Sg} {cls : Nat → Addr} {F : Nat → List D → List HOb → CRes} {k : Nat} : ∀ (s : S) {c : Ct} {X : Cx} {Z : XZ} {st : Stmt}, XO g cls F k c X → Takes X (WZ X.K cls Z) → PassesOwn (model X.prog X.w) X.A X.env X.xe → chkS g s c st = true → SS X cls Z F st s
  | .expr e, c, X, Z, st, xo, tk, hp, h => by
    unfold chkS at h
    split at h
    · simp only [Bool.and_eq_true] at h
      exact ss_expr (snd_E e xo tk h.1).1 h.2
    · cases h
  | .asg t e, c, X, Z, st, xo, tk, hp, h => by
    unfold chkS at h
    split at h
    · simp only [Bool.and_eq_true] at h
      obtain ⟨⟨⟨⟨h1, h2⟩, h3⟩, h4⟩, h5⟩ := h
      split at h5
      · simp only [Bool.and_eq_true, Bool.not_eq_true'] at h5
        exact chk_setLc xo tk h1 h2 h5.1.1 h5.1.2 (of_decide_eq_true h5.2)
      · simp only [Bool.and_eq_true] at h5
        exact ss_asg (snd_E e xo tk h1).1 (snd_T t xo tk h2) h3 h4 h5.1 h5.2
    · cases h
  | .aug i op e, c, X, Z, st, xo, tk, hp, h => by
    unfold chkS at h
    split at h
    · simp only [Bool.and_eq_true] at h
      obtain ⟨⟨⟨⟨⟨⟨h1, h2⟩, h3⟩, h4⟩, h5⟩, h6⟩, h7⟩ := h
      obtain rfl := of_decide_eq_true h5
      obtain ⟨k1, k2⟩ := xo.stor h2
      refine ss_aug xo.hN (xo.ix h1) k1 k2 (snd_E e xo tk h6).1 ?_
      simpa using h7
    · cases h
  | .ite t a b, c, X, Z, st, xo, tk, hp, h => by
    unfold chkS at h
    split at h
    · simp only [Bool.and_eq_true] at h
      exact ss_ite (snd_C t xo tk h.1.1) (snd_Ss a xo tk hp h.1.2) (snd_Ss b xo tk hp h.2)
    · cases h
  | .forr t it body, c, X, Z, st, xo, tk, hp, h => by
    unfold chkS at h
    split at h
    · simp only [Bool.and_eq_true] at h
      obtain ⟨⟨⟨h1, h2⟩, h3⟩, h4⟩ := h
      exact ss_for hp xo.calm (snd_I it xo tk h3) (snd_T t xo tk h1) (snd_Ss body xo tk hp h4) h2
    · cases h
  | .whl t body, c, X, Z, st, xo, tk, hp, h => by
    unfold chkS at h
    split at h
    · simp only [Bool.and_eq_true] at h
      exact ss_whl hp (snd_C t xo tk h.1) (snd_Ss body xo tk hp h.2)
    · cases h
  | .ret e, c, X, Z, st, xo, tk, hp, h => by
    unfold chkS at h
    split at h
    · exact ss_ret (snd_E e xo tk h).1
    · cases h
  | .retN, c, X, Z, st, xo, tk, hp, h => by
    unfold chkS at h
    split at h
    · exact ss_retN
    · cases h
  | .brk, c, X, Z, st, xo, tk, hp, h => by
    unfold chkS at h
    split at h
    · exact ss_brk
    · cases h
  | .cnt, c, X, Z, st, xo, tk, hp, h => by
    unfold chkS at h
    split at h
    · exact ss_cnt
    · cases h
  | .pass, c, X, Z, st, xo, tk, hp, h => by
    unfold chkS at h
    split at h
    · exact ss_pass
    · cases h
  | .never, c, X, Z, st, xo, tk, hp, h => ss_never
  | .kill is, c, X, Z, st, xo, tk, hp, h => by
    unfold chkS at h
    cases h
theorem snd_Ss {g : Sg} {cls : Nat → Addr} {F : Nat → List D → List HOb → CRes} {k : Nat} : ∀ (s : Ss) {c : Ct} {X : Cx} {Z : XZ} {ps : List Stmt}, XO g cls F k c X → Takes X (WZ X.K cls Z) → PassesOwn (model X.prog X.w) X.A X.env X.xe → chkSs g s c ps = true → SSs X cls Z F ps s
  | .nil, c, X, Z, ps, xo, tk, hp, h => by
    unfold chkSs at h
    split at h
    · exact ss_nil
    · cases h
  | .cons (.kill is) ss, c, X, Z, ps, xo, tk, hp, h => by
    unfold chkSs at h
    exact ss_kill (snd_Ss ss xo tk hp h)
  | .cons s ss, c, X, Z, ps, xo, tk, hp, h => by
    unfold chkSs at h
    split at h
    · exact ss_kill (snd_Ss ss xo tk hp h)
    · split at h
      · simp only [Bool.and_eq_true] at h
        exact ss_cons (snd_S s xo tk hp h.1) (snd_Ss ss xo tk hp h.2)
      · cases h
end
end MP
end
section
set_option maxRecDepth 100000
set_option maxHeartbeats 1000000
set_option autoImplicit false
/-! MPw: a def's end; a def by its body. -/
namespace MP
open PySem PySem.Spec PyProof.Rows L2
section
variable {K : PySem.W.Frag} {cls : Nat → Addr} {w w1 : Wd} {H H1 : Hp} {σ : L2.St} {s : MSt} {hp hp1 : List HOb}
/-! ### objects forgotten -/
def Wd.cut (n : Nat) (w : Wd) : Wd := ⟨w.rho.take n, fun a => match w.own a with
  | some (.fld m f) => if m < n then some (.fld m f) else some .lck
  | some (.lkf m f) => if m < n then some (.lkf m f) else some .lck
  | o => o⟩
theorem cut_def (n : Nat) (w : Wd) (a : Addr) : (w.cut n).own a = (match w.own a with
  | some (.fld m f) => if m < n then some (.fld m f) else some .lck
  | some (.lkf m f) => if m < n then some (.lkf m f) else some .lck
  | o => o) := rfl
theorem cut_keep {n : Nat} {a : Addr} {o : Own} (h : w.own a = some o) (h1 : ∀ m f, o = .fld m f → m < n) (h2 : ∀ m f, o = .lkf m f → m < n) : (w.cut n).own a = some o := by
  rw [cut_def, h]
  cases o with
  | fld m f => exact if_pos (h1 m f rfl)
  | lkf m f => exact if_pos (h2 m f rfl)
  | _ => rfl
theorem cut_some {n : Nat} {a : Addr} {o : Own} (h : w.own a = some o) : ∃ o', (w.cut n).own a = some o' ∧ (o.old = true → o'.old = true) := by
  rw [cut_def, h]
  cases o with
  | fld m f =>
    by_cases z : m < n
    · exact ⟨_, if_pos z, fun _ => rfl⟩
    · exact ⟨_, if_neg z, fun _ => rfl⟩
  | lkf m f =>
    by_cases z : m < n
    · exact ⟨_, if_pos z, fun _ => rfl⟩
    · exact ⟨_, if_neg z, fun _ => rfl⟩
  | _ => exact ⟨_, rfl, fun z => z⟩
theorem of_cut {n : Nat} {a : Addr} {o : Own} (h : (w.cut n).own a = some o) (hn : o ≠ .lck) : w.own a = some o ∧ (∀ m f, o = .fld m f → m < n) ∧ ∀ m f, o = .lkf m f → m < n := by
  rw [cut_def] at h
  split at h
  · rename_i m f e
    by_cases z : m < n
    · rw [if_pos z] at h
      cases h
      exact ⟨e, fun _ _ y => by cases y; exact z, fun _ _ y => nomatch y⟩
    · rw [if_neg z] at h
      cases h
      exact absurd rfl hn
  · rename_i m f e
    by_cases z : m < n
    · rw [if_pos z] at h
      cases h
      exact ⟨e, fun _ _ y => (nomatch y), fun _ _ y => by cases y; exact z⟩
    · rw [if_neg z] at h
      cases h
      exact absurd rfl hn
  · rename_i n1 n2
    exact ⟨h, fun m f y => (n1 m f (by rw [h, y])).elim, fun m f y => (n2 m f (by rw [h, y])).elim⟩
mutual
theorem rv_cut {n : Nat} : ∀ {d : D} {v : V}, d.bnd n = true → Rv K w H d v → Rv K (w.cut n) H d v
  | .non, _, _, h => by unfold Rv at h ⊢; exact h
  | .bl _, _, _, h => by unfold Rv at h ⊢; exact h
  | .int _, _, _, h => by unfold Rv at h ⊢; exact h
  | .str _, _, _, h => by unfold Rv at h ⊢; exact h
  | .tup xs, _, b, h => by
    unfold D.bnd at b
    unfold Rv at h ⊢
    obtain ⟨a, vs, h1, h2, h3⟩ := h
    exact ⟨a, vs, h1, h2, rvs_cut b h3⟩
  | .lst xs, _, b, h => by
    unfold D.bnd at b
    unfold Rv at h ⊢
    obtain ⟨a, vs, h1, h2, h3⟩ := h
    exact ⟨a, vs, h1, ⟨cut_keep h2.1 (fun _ _ z => nomatch z) (fun _ _ z => nomatch z), h2.2⟩, rvs_cut b h3⟩
  | .ref m, _, b, h => by
    unfold D.bnd at b
    unfold Rv at h ⊢
    obtain ⟨a, h1, h2⟩ := h
    refine ⟨a, ?_, h2⟩
    show (w.rho.take n)[m]? = some a
    rw [List.getElem?_take_of_lt (of_decide_eq_true b)]
    exact h1
  | .scr _, _, _, h => by unfold Rv at h ⊢; exact h
  | .nw _, _, _, h => by unfold Rv at h; exact h.elim
  | .sl _, _, _, h => by unfold Rv at h; exact h.elim
  | .fl _ _, _, _, h => by unfold Rv at h; exact h.elim
theorem rvs_cut {n : Nat} : ∀ {ds : List D} {vs : List V}, bnds n ds = true → Rvs K w H ds vs → Rvs K (w.cut n) H ds vs
  | [], _, _, h => by unfold Rvs at h ⊢; exact h
  | x :: xs, _, b, h => by
    unfold bnds at b
    simp only [Bool.and_eq_true] at b
    obtain ⟨v, r, rfl, h2, h3⟩ := h.cons
    exact Rvs.mk (rv_cut b.1 h2) (rvs_cut b.2 h3)
end
theorem sv_cut {n m : Nat} {f : Str} {sv : SV} {v : V} (hm : m < n) (b : sv.bnd n = true) (h : SVok K w H (.fld m f) (.lkf m f) sv v) : SVok K (w.cut n) H (.fld m f) (.lkf m f) sv v := by
  cases sv with
  | val d => exact rv_cut b h
  | own xs =>
    obtain ⟨a, vs, h1, h2, h3, h4⟩ := h
    exact ⟨a, vs, h1, cut_keep h2 (fun _ _ z => by cases z; exact hm) (fun _ _ z => nomatch z), h3, rvs_cut b h4⟩
  | lk xs =>
    obtain ⟨a, vs, h1, h2, h3, h4⟩ := h
    exact ⟨a, vs, h1, cut_keep h2 (fun _ _ z => nomatch z) (fun _ _ z => by cases z; exact hm), h3, rvs_cut b h4⟩
theorem flds_cut {n m : Nat} (hm : m < n) : ∀ {fs : List (Str × SV)} {fvs : List (Str × V)}, fs.all (fun p => p.2.bnd n) = true → Flds K w H m fs fvs → Flds K (w.cut n) H m fs fvs
  | _, _, _, .nil => .nil
  | (f, x) :: fs, (g, v) :: fvs, b, .cons ⟨r1, r2⟩ t => by
    simp only [List.all_cons, Bool.and_eq_true] at b
    exact .cons ⟨r1, sv_cut hm b.1 r2⟩ (flds_cut hm b.2 t)
theorem getF_take {n m : Nat} {f : Str} (hm : m < n) : getF (hp.take n) m f = getF hp m f := by
  unfold getF
  rw [List.getElem?_take_of_lt hm]
/-- what nobody can come to is forgotten -/
theorem gc_ok {d : D} {v : V} (h0 : HR K cls w hp H) (e : ExtS w H w1 H1) (h : HR K cls w1 hp1 H1) (r : Rp K w1 [] H1 d v) : ∃ w2, ExtS w H w2 H1 ∧ HR K cls w2 (gc hp.length d hp1) H1 ∧ Rp K w2 [] H1 d v := by
  unfold gc
  split
  · rename_i b
    simp only [Bool.and_eq_true] at b
    obtain ⟨b1, b2⟩ := b
    have rl : w.rho.length = hp.length := h0.rl
    have ge : hp.length ≤ w1.rho.length := by
      obtain ⟨t, q⟩ := e.rho
      rw [q, List.length_append]
      omega
    refine ⟨w1.cut hp.length, ?_, ?_, ?_⟩
    · refine ⟨?_, fun a o q z y => ?_, fun a o q => ?_, fun a o q z => ?_, fun a m q => ?_, fun r m C dx fs q z => ?_, e.dom, e.tup, e.frz⟩
      · obtain ⟨t, q⟩ := e.rho
        refine ⟨[], ?_⟩
        show w1.rho.take hp.length = _
        rw [q, ← rl, List.take_left, List.append_nil]
      · obtain ⟨k1, k2⟩ := e.own a o q z y
        refine ⟨cut_keep k1 (fun m f z2 => by rw [z2] at z; cases z) (fun m f z2 => ?_), k2⟩
        subst z2
        obtain ⟨⟨sv, j1, _⟩, _⟩ := h0.tok a m f (.inr q)
        obtain ⟨C, fs, j2, _⟩ := getF_some j1
        exact (List.getElem?_eq_some_iff.mp j2).1
      · obtain ⟨o', k⟩ := e.som a o q
        obtain ⟨o2, k2, _⟩ := cut_some (n := hp.length) k
        exact ⟨o2, k2⟩
      · obtain ⟨o', k, k'⟩ := e.old a o q z
        obtain ⟨o2, k2, k3⟩ := cut_some (n := hp.length) k
        exact ⟨o2, k2, k3 k'⟩
      · exact cut_keep (e.cell a m q) (fun _ _ z => nomatch z) (fun _ _ z => nomatch z)
      · obtain ⟨fs', k1, k2⟩ := e.fld r m C dx fs q z
        refine ⟨fs', k1, fun f v hv => ?_⟩
        obtain ⟨v', k3, k4⟩ := k2 f v hv
        refine ⟨v', k3, fun t => k4 ?_⟩
        obtain ⟨b, rfl, t⟩ := t
        refine ⟨b, rfl, ?_⟩
        rcases t with t | t
        · exact .inl (of_cut t fun z => nomatch z).1
        · exact .inr (of_cut t fun z => nomatch z).1
    · refine ⟨?_, fun a o q => ?_, fun a m f q => ?_, fun m ob q => ?_⟩
      · show (w1.rho.take hp.length).length = _
        rw [List.length_take, List.length_take, h.rl]
      · cases z : w1.own a with
        | none =>
          rw [cut_def, z] at q
          cases q
        | some o1 => exact h.dom a o1 z
      · have go : m < hp.length ∧ (w1.own a = some (.fld m f) ∨ w1.own a = some (.lkf m f)) := by
          rcases q with q | q
          · obtain ⟨k1, k2, _⟩ := of_cut q fun z => nomatch z
            exact ⟨k2 m f rfl, .inl k1⟩
          · obtain ⟨k1, _, k2⟩ := of_cut q fun z => nomatch z
            exact ⟨k2 m f rfl, .inr k1⟩
        obtain ⟨k1, k2⟩ := h.tok a m f go.2
        refine ⟨by rw [getF_take go.1]; exact k1, fun r C dx fvs z => k2 r C dx fvs ?_⟩
        have z' : (w1.rho.take hp.length)[m]? = some r := z
        rw [List.getElem?_take_of_lt go.1] at z'
        exact z'
      · have hm : m < hp.length := by
          have z := (List.getElem?_eq_some_iff.mp q).1
          rw [List.length_take] at z
          omega
        have q' := q
        rw [List.getElem?_take_of_lt hm] at q'
        obtain ⟨r, k1, k2, k3⟩ := h.objs m ob q'
        have bo := List.all_eq_true.mp b2 ob (List.mem_of_getElem? q)
        refine ⟨r, ?_, cut_keep k2 (fun _ _ z => nomatch z) (fun _ _ z => nomatch z), ?_⟩
        · show (w1.rho.take hp.length)[m]? = some r
          rw [List.getElem?_take_of_lt hm]
          exact k1
        · cases ob with
          | box xs =>
            obtain ⟨vs, j1, j2⟩ := k3
            exact ⟨vs, j1, rvs_cut bo j2⟩
          | ins C fs =>
            obtain ⟨dx, fvs, j1, j2, j3⟩ := k3
            exact ⟨dx, fvs, j1, flds_cut hm bo j2, j3⟩
    · cases d with
      | nw xs =>
        obtain ⟨a, vs, h1, h2, h3, h4⟩ := r
        exact ⟨a, vs, h1, cut_keep h2 (fun _ _ z => nomatch z) (fun _ _ z => nomatch z), h3, rvs_cut b1 h4⟩
      | sl i => cases b1
      | fl m f => cases b1
      | _ => exact (rv_cut b1 (r.hard rfl)).rp
  · exact ⟨w1, e, h, r⟩
/-! ### the end of a def -/
theorem fin_ok {o : Out} {Q : VK} {E : XK} (nl : NoSl w) (h0 : HR K cls w hp H) (po : PostC K cls (finC hp.length o) w H Q E) :
    PostS K cls (fun c fs _ w _ H => ∀ ce d, ExAt K cls w H c fs ce d → E ce d H) o w H { nx := fun _ H' => Q .non H', rt := Q } := by
  have fin : ∀ {d : D} {hp1 : List HOb} {w1 : Wd} {H1 : Hp} {v : V}, PostC K cls (.ok d (gc hp.length d hp1)) w H Q E → ExtS w H w1 H1 → HR K cls w1 hp1 H1 → Rp K w1 [] H1 d v → New w d v → Q v H1 := fun {d hp1 w1 H1 v} po e h r n => by
    obtain ⟨w2, k1, k2, k3⟩ := gc_ok h0 e h r
    exact po w2 v H1 k1 k2 k3 n
  cases o with
  | nx s => exact fun w1 σ H1 e sr => fin po e sr.hr (by show Rv K w1 H1 .non _; unfold Rv; rfl) trivial
  | bk s => exact po.elim
  | ct s => exact po.elim
  | stuck => exact po.elim
  | ex c fs s => exact fun w1 σ H1 e sr ce d ea => po w1 H1 ce d e sr.hr ea
  | rt d s =>
    intro w1 σ H1 v e sr r n
    have hard : d.hard = true → PostC K cls (.ok d (gc hp.length d s.hp)) w H Q E → Q v H1 := fun hd po => fin po e sr.hr (r.hard hd).rp n
    cases d with
    | nw xs => exact fin (d := .nw xs) po e sr.hr r n
    | sl i =>
      have po' : PostC K cls (match getS s i with
        | some (.own xs) => .ok (.nw xs) (gc hp.length (.nw xs) s.hp)
        | some (.val x) => .ok x (gc hp.length x s.hp)
        | _ => .stuck) w H Q E := po
      have r' : σ[i]? = some (some v) := r
      cases g : getS s i with
      | none => rw [g] at po'; exact po'.elim
      | some sv =>
        rw [g] at po'
        obtain ⟨v', h1, h2⟩ := sr.slots i sv (getS_of g)
        rw [r'] at h1
        cases h1
        cases sv with
        | lk xs => exact po'.elim
        | val x => exact fin po' e sr.hr (Rv.rp h2) (rd_of (w0 := w) (H0 := H) (σ := []) h2).2
        | own xs =>
          obtain ⟨a, vs, rfl, k2, k3, k4⟩ := h2
          have c : Chg w1 H1 (w1.put a .tmp) H1 a (.slot i) := chg_put k2 k3 (fun z => nomatch z)
          have nt : ∀ n f, ((w1.put a .tmp).own a = some (.fld n f) ∨ (w1.put a .tmp).own a = some (.lkf n f)) → False := fun n f z => by
            rw [put_same] at z
            rcases z with z | z <;> cases z
          have e2 : ExtS w1 H1 (w1.put a .tmp) H1 := c.ext ⟨.tmp, put_same⟩ (fun z => nomatch z) (fun z => nomatch z) (fun _ z => nomatch z) (fun n f z => (nt n f z).elim) fun n C dx fs z _ => by
            rw [k2] at z
            cases z
          refine fin (d := .nw xs) po' (e.trans e2) (c.hr sr.hr (fun _ z => nomatch z) (fun _ _ z => nomatch z) (fun _ _ z => nomatch z) nt) ⟨a, vs, rfl, put_same, k3, k4.pre c.pre⟩ ⟨a, rfl, ?_⟩
          cases q : w.own a with
          | none => rfl
          | some o =>
            obtain ⟨o', z1, z2⟩ := e.old a o q (nl a o q)
            rw [k2] at z1
            cases z1
            cases z2
    | fl m f =>
      have po' : PostC K cls (match frz (.fl m f) s with
        | some (x, s1) => .ok x (gc hp.length x s1.hp)
        | none => .stuck) w H Q E := po
      cases g : frz (.fl m f) s with
      | none => rw [g] at po'; exact po'.elim
      | some p =>
        obtain ⟨x, s1⟩ := p
        rw [g] at po'
        obtain ⟨w2, k1, k2, k3⟩ := frz_ok sr r g
        exact fin po' (k3 false w H e n) k1.hr k2.rp (rd_of (w0 := w) (H0 := H) (σ := []) k2).2
    | _ => exact hard rfl po
/-! ### the start -/
theorem start_ok {fn : Fn} {ds : List D} {vs : List V} {N : List Str} (h0 : HR K cls w hp H) (r : Rvs K w H ds vs) (h1 : ds.length = fn.np) (h2 : fn.ns = N.length) : SR K cls w (startS fn ds hp) (L2.start N vs) H := by
  have hl := r.length
  refine ⟨h0, ?_, fun i sv q => ?_⟩
  · show (ds.map _ ++ List.replicate _ _).length = (vs.map some ++ List.replicate _ _).length
    simp only [List.length_append, List.length_map, List.length_replicate]
    omega
  · have q' : (ds.map (fun d => some (SV.val d)) ++ List.replicate (fn.ns - fn.np) none)[i]? = some (some sv) := q
    by_cases hi : i < ds.length
    · rw [List.getElem?_append_left (by simpa using hi), List.getElem?_map] at q'
      cases e : ds[i]? with
      | none => rw [e] at q'; cases q'
      | some d =>
        rw [e] at q'
        cases q'
        obtain ⟨v, k1, k2⟩ := r.get e
        refine ⟨v, ?_, k2⟩
        unfold L2.start
        rw [List.getElem?_append_left (by simp only [List.length_map]; omega), List.getElem?_map, k1]
        rfl
    · rw [List.getElem?_append_right (by simp only [List.length_map]; omega), List.getElem?_replicate] at q'
      split at q' <;> cases q'
end
end MP
end
section
set_option maxRecDepth 100000
set_option maxHeartbeats 1000000
set_option autoImplicit false
/-! MPx: a def by its body; the module's defs, all together. -/
namespace MP
open PySem PySem.Spec PyProof.Rows L2
theorem guards_deeper {A : Around} {env : Env} (h : A.guards = some []) : (A.deeper env).guards = some [] := by
  show A.guards = some []
  exact h
section
variable {P : Program} {w : World} {K : PySem.W.Frag} {mg : Str → Option Value} {base : Heap} {k : Nat} {f : Addr} {name qual : Str} {params : Arguments} {body : List Stmt} {scope : Scope} {dV kV doc pm cdv ct oc : Value} {an od : Option Addr}
  {osl : Array (Option Value)} {N ps : List Str} {sp : Sp}
theorem fn_g (lk : K.lookup f = some ⟨oc, od, .func (PySem.W.fnOf name qual params body scope dV kV doc pm an cdv ct), osl⟩) (hcd : PySem.W.codeIn K cdv qual = true) (S : FnScope N ps scope)
    (len : ∀ vs H Q E, sp vs H Q E → vs.length = ps.length)
    (hbody : ∀ (A : Around) (outer : List Env) (sh : Shared) (H : Hp) (vs : List V) (Q : VK) (E : XK), Room k (A.deeper (envOfC qual scope sh.heap.objs.size f cdv)) → A.guards = some [] → sp vs H Q E →
      ∃ t, PSs (cxOf (L2.CX P w) P w K mg base N qual scope f cdv A outer sh H E) body t ∧ t { nx := fun _ H' => Q .non H', rt := Q } (L2.start N vs) H) :
    FnG P w K mg base (k + 1) f (PySem.W.fnOf name qual params body scope dV kV doc pm an cdv ct) ps sp := by
  refine ⟨len, fun A outer sh H args us vs Q E room gd ev bt rel want => ?_⟩
  have lv := len vs H Q E want
  have kin : K.In sh.heap := ev.mod.kin.keeps fun b o q => (ev.bs b o q).1
  have nolim : sh.heap.NoLimit := ev.mod.nolimit.keeps fun b o q => (ev.bs b o q).1
  have kinds : ∀ y ∈ ps.zip us, scope.names.lookup y.1 = some .local ∨ (scope.names.lookup y.1 = some .cell ∧ ((cellsFrom (sh.heap.objs.size + 1) scope.names []).lookup y.1).isSome = true) := by
    rintro ⟨n, u⟩ hy
    rcases S.par n (List.of_mem_zip hy).1 with q | q
    · exact .inl q
    · exact .inr ⟨q, PySem.W.cellsFrom_some _ _ _ (.inl q)⟩
  apply codeAny_call_function room.depth (kin f _ lk) rfl S.co S.gen rfl (PySem.W.codeRec_of kin hcd)
  apply bt
  apply wpAny_newFunctionEnv_cells S.kind kinds
  rintro env rfl s1 x
  refine ⟨nolim.keeps x.toInCall.keep, codeAny_func ?_⟩
  obtain ⟨t, ht, hq⟩ := hbody A outer sh H vs Q E (room.deeper _) gd want
  have I0 := inv_start (CX := L2.CX P w) (w := w) (E := E) (cd := cdv) S room.hd ev lv rel x
  refine wpAny_mono (ht.run [] s1 _ H _ I0 hq) (fun fl s' hs => ?_) fun _ _ hs => hs
  match fl, hs with
  | .ret u, ⟨v, σ', H', J, rv, q⟩ => exact ⟨v, H', J.os, J.bare, J.base, J.hok, rv, q⟩
  | .next, ⟨σ', H', J, q⟩ => exact ⟨V.non, H', J.os, J.bare, J.base, J.hok, rfl, q⟩
  | .brk, ⟨_, _, _, q⟩ => exact q.elim
  | .cont, ⟨_, _, _, q⟩ => exact q.elim
end
/-- a def of the module and its mini-Python -/
structure FnD (K : PySem.W.Frag) (sg : Sg) (fa : Addr) (fd : FuncData) (ps : List Str) (fn : Fn) : Prop where
  mk' : ∃ (name qual : Str) (params : Arguments) (body : List Stmt) (scope : Scope) (dV kV doc pm cdv ct oc : Value) (an od : Option Addr) (osl : Array (Option Value)) (N : List Str),
    fd = PySem.W.fnOf name qual params body scope dV kV doc pm an cdv ct ∧ K.lookup fa = some ⟨oc, od, .func fd, osl⟩ ∧ PySem.W.codeIn K cdv qual = true ∧ FnScope N ps scope ∧ fn.np = ps.length ∧ fn.ns = N.length ∧ chkSs sg fn.body ⟨N, scope, fun _ => true⟩ body = true
structure ModD (P : Program) (w : World) (K : PySem.W.Frag) (mg : Str → Option Value) (sg : Sg) (tab : Nat → Option Fn) : Prop where
  const : ∀ x d, sg.consts.lookup x = some d → ∃ v u, scalV d = some v ∧ mg x = some u ∧ RelV v u
  blt : ∀ x, sg.blts.contains x = true → mg x = none
  fn : ∀ f x, sg.fns.lookup f = some x → ∃ fa fd ps fn, tab f = some fn ∧ mg x = some (.ref fa) ∧ PySem.W.keepIn K (.ref fa) = true ∧ Binds K fd ps [] ∧ FnD K sg fa fd ps fn
section
variable {P : Program} {w : World} {K : PySem.W.Frag} {mg : Str → Option Value} {sg : Sg} {tab : Nat → Option Fn} {base : Heap} {cls : Nat → Addr}
theorem run_len {n f : Nat} {fn : Fn} (h : tab f = some fn) (ds : List D) (hp : List HOb) (hn : ds.length ≠ fn.np) : runF tab n f ds hp = .stuck := by
  cases n with
  | zero => rfl
  | succ n =>
    unfold runF
    rw [h]
    exact if_neg hn
theorem sp_len {F : Nat → List D → List HOb → CRes} {f n : Nat} (vs : List V) (H : Hp) (Q : VK) (E : XK) (h : spF K cls F f n vs H Q E) : vs.length = n := by
  obtain ⟨w, ds, hp, h1, _, _, h2, _⟩ := h
  rw [h2.length, h1]
/-- every def keeps its promise -/
theorem gok (M : ModD P w K mg sg tab) : ∀ n, GOk sg cls (runF tab n) n P w K mg base
  | 0 => by
    refine ⟨M.const, M.blt, fun f x h => ?_⟩
    obtain ⟨fa, fd, ps, fn, k1, k2, k3, k4, k5⟩ := M.fn f x h
    refine ⟨fa, fd, ps, k2, k3, k4, ⟨sp_len, fun A outer s H args us vs Q E _ _ _ _ _ q => ?_⟩, fun _ _ _ => rfl⟩
    obtain ⟨w, ds, hp, _, _, _, _, z⟩ := q
    exact z.elim
  | n + 1 => by
    have ih := gok M n
    refine ⟨M.const, M.blt, fun f x h => ?_⟩
    obtain ⟨fa, fd, ps, fn, k1, k2, k3, k4, k5⟩ := M.fn f x h
    obtain ⟨name, qual, params, body, scope, dV, kV, doc, pm, cdv, ct, oc, an, od, osl, N, rfl, j1, j2, j3, j4, j5, j6⟩ := k5.mk'
    refine ⟨fa, _, ps, k2, k3, k4, fn_g j1 j2 j3 sp_len fun A outer sh H vs Q E room gd want => ?_, fun ds hp hn => run_len k1 ds hp (by rw [j4]; exact hn)⟩
    obtain ⟨w0, ds, hp, h1, h2, h3, h4, h5⟩ := want
    have xo : XO sg cls (runF tab n) n ⟨N, scope, fun _ => true⟩ (cxOf (L2.CX P w) P w K mg base N qual scope fa cdv A outer sh H E) := ⟨rfl, j3.nd, rfl, fun _ _ => rfl, rfl, room, guards_deeper gd, ih⟩
    have tk : Takes (cxOf (L2.CX P w) P w K mg base N qual scope fa cdv A outer sh H E) (WZ K cls fun c fs _ w _ H => ∀ ce d, ExAt K cls w H c fs ce d → E ce d H) :=
      (takes_of rfl rfl rfl rfl).imp fun ce d σ H ⟨c, fs, s, w, _, ea, z⟩ => z ce d ea
    have hp0 : PassesOwn (model P w) (cxOf (L2.CX P w) P w K mg base N qual scope fa cdv A outer sh H E).A (cxOf (L2.CX P w) P w K mg base N qual scope fa cdv A outer sh H E).env (cxOf (L2.CX P w) P w K mg base N qual scope fa cdv A outer sh H E).xe := passes_of rfl
    refine ⟨_, snd_Ss fn.body xo tk hp0 j6, w0, startS fn ds hp, start_ok h2 h4 (by rw [h1, j4]) j5, ?_⟩
    unfold runF at h5
    rw [k1] at h5
    have h5' : PostC K cls (if ds.length = fn.np then finC hp.length (evSs (runF tab n) fn.body (startS fn ds hp)) else .stuck) w0 H Q E := h5
    rw [if_pos (by rw [h1, j4])] at h5'
    exact fin_ok h3 h2 h5'
end
end MP
end
section
set_option maxRecDepth 100000
set_option maxHeartbeats 1000000
set_option autoImplicit false
/-! MPy: a law by what mini-Python gives. -/
namespace MP
open PySem PySem.Spec PyProof.Rows L2
/-- the heap in which the script alone is known -/
def onlyAt (a : Addr) (o : HO) : Hp := fun b => if b = a then some o else none
theorem onlyAt_of {a b : Addr} {o u : HO} (h : onlyAt a o b = some u) : b = a ∧ u = o := by
  unfold onlyAt at h
  split at h
  · exact ⟨by assumption, (Option.some.inj h).symm⟩
  · cases h
section
variable {P : Program} {w : World} {K : PySem.W.Frag} {mg mb : Str → Option Value} {k : Nat} {fa a : Addr} {sp : Sp} {sh : Shared} {vs : List Value} {ns : List Int}
/-- the law's call over one abstract heap -/
theorem law_at {H : Hp} {ob : Obj} (kin : K.In sh.heap) (hns : sh.heap.Ns mainGlobals mg) (hb : sh.heap.Ns builtinsNs mb) (hbb : ∀ x : Str, x ≠ "__name__" → mb x = bootBuiltins x) (hlim : sh.heap.NoLimit) (hg : sh.gens = #[])
    (hob : sh.heap.get? a = some ob) (hnd : ∀ es n, ob.data ≠ .dict es n) (room : Room k callerA) (hok : HOk P w H sh.heap) (hA : ∀ b u, H b = some u → b = a ∧ K.lookup a = none ∧ ∃ o xs, u = .frz o (.lst xs))
    (F : ∀ base : Heap, K.In base → base.Ns mainGlobals mg → ∃ (fd : FuncData) (ps : List Str), BindsTo sh fd ⟨[.ref a], []⟩ (ps.zip [.ref a]) ∧ FnG P w K mg base k fa fd ps sp) (want : sp [.ref a] H (fun v _ => v = .bl true) fun _ _ _ => False) :
    codeAny (model P w) callerA (.call (.ref fa) ⟨[.ref a], []⟩) (fun r s' => r = .ok (.ret (.bool true)) ∧ OldK sh.heap s'.heap ∧ s'.os = sh.os ∧ AllBare s'.gens) sh := by
  have keepd : ∀ {b : Addr} {m : Str → Option Value}, sh.heap.Ns b m → (hidT sh.heap H).Ns b m := by
    rintro b m ⟨o, es, ep, q1, q2, q3⟩
    refine ⟨o, es, ep, hidT_get q1 ?_, q2, q3⟩
    cases q : H b with
    | none => rfl
    | some u =>
      obtain ⟨rfl, _⟩ := hA b u q
      rw [hob] at q1
      cases q1
      exact absurd q2 (hnd es ep)
  have kbase : K.In (hidT sh.heap H) := by
    intro b o q0
    refine hidT_get (kin b o q0) ?_
    cases q : H b with
    | none => rfl
    | some u =>
      obtain ⟨rfl, q2, _⟩ := hA b u q
      rw [q2] at q0
      cases q0
  obtain ⟨mc, c1, c2⟩ := hlim
  have modl : Mod K mg (hidT sh.heap H) := ⟨kbase, keepd hns, ⟨mb, keepd hb, hbb⟩, mc, keepd c1, c2⟩
  have ev : Env0 P w K mg (hidT sh.heap H) callerA [] sh H := by
    refine ⟨rfl, modl, fun b o q => of_hidT q, Nat.le_of_eq (hidT_size _ _), trivial, ?_, hok, .of_eq hg⟩
    intro b z
    cases z
  obtain ⟨fd, ps, bt, G⟩ := F _ kbase (keepd hns)
  refine codeAny_mono (G.run callerA [] sh H ⟨[.ref a], []⟩ [.ref a] [.ref a] _ _ room rfl ev bt (.cons rfl .nil) want) fun r s' q => ?_
  match r, q with
  | .error e, q =>
    obtain ⟨_, _, _, _, _, _, _, _, _, _, _, _, z⟩ := q
    exact z.elim
  | .ok (.ret u), ⟨v, H', os, bare, un, hok', rv, z⟩ =>
    have z' : v = .bl true := z
    subst z'
    obtain rfl : u = Value.bool true := rv
    refine ⟨rfl, OldK.of_keep fun b o q0 => ?_, os, bare⟩
    cases q : H b with
    | none =>
      refine un.keep b o q0 q ?_ ?_
      · intro z
        cases z
      · intro z
        cases z
    | some u =>
      obtain ⟨rfl, _, o1, xs, rfl⟩ := hA b u q
      have z2 := un.frzs b o1 _ q
      have g1 := (hok b _ q).1
      have g2 := (hok' b _ z2).1
      rw [q0] at g1
      cases g1
      exact g2
end
theorem rv_bl {K : PySem.W.Frag} {w : Wd} {σ : L2.St} {H : Hp} {b : Bool} {v : V} (h : Rp K w σ H (.bl b) v) : v = .bl b := rp_bl h
/-- THE ROAD: a law holds if mini-Python answers True -/
theorem law_mp {l : PySem.W.OpenLaw} {n k : Nat} {q : Program} {loose : List Str} {XP : (Str → Option Value) → Heap → Prop} {YP : World → Heap → Prop} {d : DefRec} {K : Params → PySem.W.Frag} {sg : Sg} {tab : Nat → Option Fn} {f : Nat} {fn : Fn}
    (hn : l.most = some n) (hn2 : n ≤ sizeLine) (hdf : d.params.defaults = []) (room : Room k callerA) (hY : ∀ (w : World) (h : Heap), YP w h → (K w.params).In h)
    (M : ∀ (w : World) (mg : Str → Option Value) (h : Heap), (K w.params).In h → h.Ns mainGlobals mg → ModD l.prog w (K w.params) mg sg tab)
    (hf : sg.fns.lookup f = some d.name) (ht : tab f = some fn) (hnp : fn.np = 1) (hrun : ∀ ns : List Int, ns.length ≤ n → ∃ hp, runF tab k f [.scr ns] [] = .ok (.bl true) hp) :
    PySem.W.WalkO q loose XP YP l.row.toRowW d [] (fun f vs => PySem.call f vs) := by
  refine Att.attach_call hn hdf fun w s0 sh mg mb fa o pm cd doc a vs ns G Y ho hd hcd hmg hobj hints hlen hg => ?_
  have kin := hY w _ Y
  have hlz := Nat.le_trans hlen hn2
  have md := M w mg sh.heap kin G.T.g
  have vl := hints.length
  have rv := vals_ints hints
  -- the law's own def
  have F : ∀ base : Heap, (K w.params).In base → base.Ns mainGlobals mg → ∃ (fd : FuncData) (ps : List Str), BindsTo sh fd ⟨[.ref a], []⟩ (ps.zip [.ref a]) ∧ FnG l.prog w (K w.params) mg base k fa fd ps (spF (K w.params) (fun _ => 0) (runF tab k) f 1) := fun base _ _ => by
    obtain ⟨fa', fd, ps, k1, k2, k3, k4, k5⟩ := (gok (cls := fun _ => 0) (base := base) md k).fn f d.name hf
    rw [hmg] at k1
    cases k1
    have e : ps.length = 1 := by
      by_cases z : ps.length = 1
      · exact z
      · obtain ⟨hp, r⟩ := hrun ns hlen
        rw [k5 [.scr ns] [] (fun y => z y.symm)] at r
        cases r
    rw [e] at k4
    have bt := k3 sh [.ref a] kin (by rw [List.append_nil, e]; rfl)
    rw [List.append_nil] at bt
    exact ⟨fd, ps, bt, k4⟩
  have want : ∀ H : Hp, ScL (K w.params) H a (ns.map V.int) → spF (K w.params) (fun _ => 0) (runF tab k) f 1 [.ref a] H (fun v _ => v = .bl true) (fun _ _ _ => False) := fun H hs => by
    obtain ⟨hp, r⟩ := hrun ns hlen
    refine ⟨⟨[], fun _ => none⟩, [.scr ns], [], rfl, ⟨rfl, fun _ _ z => (nomatch z), fun a n f z => ?_, fun n ob z => by simp at z⟩, fun _ _ z => (nomatch z), .mk ?_ .mk0, ?_⟩
    · rcases z with z | z <;> cases z
    · unfold Rv
      exact ⟨a, rfl, hs⟩
    · rw [r]
      exact fun w' v H' _ _ rp _ => rp_bl rp
  have nd : ∀ es n, ({ cls := .type "list", data := .seq vs.toArray } : Obj).data ≠ .dict es n := fun _ _ z => nomatch z
  cases hk : (K w.params).lookup a with
  | some o2 =>
    have e := kin a o2 hk
    rw [hobj] at e
    cases e
    have z : ∀ b u, (fun _ => none : Hp) b = some u → False := fun b u z => nomatch z
    refine law_at (H := fun _ => none) kin G.T.g G.T.b G.T.builtins G.T.nolimit hg hobj nd room (fun b u y => (z b u y).elim) (fun b u y => (z b u y).elim) F (want _ (.inr ⟨_, vs.toArray, _, hk, rfl, rfl, rfl, ?_, by simpa using rv⟩))
    rw [List.size_toArray, vl]
    exact hlz
  | none =>
    refine law_at (H := onlyAt a (.frz { cls := .type "list", data := .seq vs.toArray } (.lst (ns.map V.int)))) kin G.T.g G.T.b G.T.builtins G.T.nolimit hg hobj nd room (fun b u y => ?_) (fun b u y => ?_) F (want _ (.inl ⟨_, if_pos rfl⟩))
    · obtain ⟨rfl, rfl⟩ := onlyAt_of y
      exact ⟨hobj, by rw [List.length_map]; exact hlz, vs, _, rv, hobj⟩
    · obtain ⟨rfl, rfl⟩ := onlyAt_of y
      exact ⟨rfl, hk, _, _, rfl⟩
end MP
end
section
set_option maxRecDepth 100000
set_option maxHeartbeats 1000000
set_option autoImplicit false
/-! MPz: what the top has written. -/
namespace MP
open PySem PySem.Spec PyProof.Rows L2
def AllI (P : Nat → Str → Prop) : List (Nat × Str) → Prop
  | [] => True
  | p :: r => P p.1 p.2 ∧ AllI P r
theorem alli_get {P : Nat → Str → Prop} {f : Nat} {x : Str} : ∀ {l : List (Nat × Str)}, AllI P l → l.lookup f = some x → P f x
  | [], _, h => by cases h
  | (g, y) :: r, a, h => by
    rw [List.lookup_cons] at h
    cases q : f == g with
    | true =>
      rw [q] at h
      cases h
      obtain rfl := eq_of_beq q
      exact a.1
    | false =>
      rw [q] at h
      exact alli_get a.2 h
def AllC (P : Str → D → Prop) : List (Str × D) → Prop
  | [] => True
  | p :: r => P p.1 p.2 ∧ AllC P r
theorem allc_get {P : Str → D → Prop} {x : Str} {d : D} : ∀ {l : List (Str × D)}, AllC P l → l.lookup x = some d → P x d
  | [], _, h => by cases h
  | (y, e) :: r, a, h => by
    rw [List.lookup_cons] at h
    cases q : x == y with
    | true =>
      rw [q] at h
      cases h
      obtain rfl := eq_of_beq q
      exact a.1
    | false =>
      rw [q] at h
      exact allc_get a.2 h
def AllB (P : Str → Prop) : List Str → Prop
  | [] => True
  | p :: r => P p ∧ AllB P r
theorem allb_get {P : Str → Prop} {x : Str} : ∀ {l : List Str}, AllB P l → l.contains x = true → P x
  | [], _, h => by cases h
  | y :: r, a, h => by
    rw [List.contains_cons] at h
    cases q : x == y with
    | true =>
      obtain rfl := eq_of_beq q
      exact a.1
    | false =>
      rw [q] at h
      exact allb_get a.2 h
def ItemP (K : PySem.W.Frag) (mg : Str → Option Value) (sg : Sg) (tab : Nat → Option Fn) (f : Nat) (x : Str) : Prop :=
  ∃ fa fd ps fn, tab f = some fn ∧ mg x = some (.ref fa) ∧ PySem.W.keepIn K (.ref fa) = true ∧ Binds K fd ps [] ∧ FnD K sg fa fd ps fn
def ConstP (mg : Str → Option Value) (x : Str) (d : D) : Prop := ∃ v u, scalV d = some v ∧ mg x = some u ∧ RelV v u
theorem mod_of {P : Program} {w : World} {K : PySem.W.Frag} {mg : Str → Option Value} {sg : Sg} {tab : Nat → Option Fn} (h1 : AllC (ConstP mg) sg.consts) (h2 : AllB (fun x => mg x = none) sg.blts) (h3 : AllI (ItemP K mg sg tab) sg.fns) : ModD P w K mg sg tab :=
  ⟨fun _ _ h => allc_get h1 h, fun _ h => allb_get h2 h, fun _ _ h => alli_get h3 h⟩
section
variable {K : PySem.W.Frag} {h : Heap} {mg : Str → Option Value} {sg : Sg} {tab : Nat → Option Fn}
theorem item_of {f : Nat} {x : Str} {st : Stmt} {fa : Addr} {od an : Option Addr} {osl : Array (Option Value)} {oc kV doc pm cdv ct : Value} {N ps : List Str} {fn : Fn} (X : K.In h) (G : h.Ns mainGlobals mg) (ht : tab f = some fn) (S : FnScope N ps (defScope st)) (ch : chkSs sg fn.body ⟨N, defScope st, fun _ => true⟩ (defBody st) = true) (h1 : fn.np = ps.length) (h2 : fn.ns = N.length)
    (hb : ∀ (kV doc pm : Value) (an : Option Addr) (cdv ct : Value) (us : List Value), us.length = ps.length → bindArgs (PySem.W.fnOf x x (defArgs st) (defBody st) (defScope st) .none kV doc pm an cdv ct) ⟨us, []⟩ = pure (ps.zip us))
    (a : PySem.W.nsIn K mainGlobals x = some (some (.ref fa))) (l : K.lookup fa = some ⟨oc, od, .func (PySem.W.fnOf x x (defArgs st) (defBody st) (defScope st) .none kV doc pm an cdv ct), osl⟩) (c : PySem.W.codeIn K cdv x = true) (k : PySem.W.keepIn K (.ref fa) = true) : ItemP K mg sg tab f x :=
  ⟨fa, _, ps, fn, ht, PySem.W.mg_of X G a, k, .all (hb kV doc pm an cdv ct), ⟨x, x, _, _, _, _, _, _, _, _, _, _, _, _, _, N, rfl, l, c, S, h1, h2, ch⟩⟩
theorem const_str {x : Str} {z : Str} {t : Tok} (X : K.In h) (G : h.Ns mainGlobals mg) (a : PySem.W.nsIn K mainGlobals x = some (some (.str z t))) : ConstP mg x (.str z) := ⟨.str z, _, rfl, PySem.W.mg_of X G a, ⟨t, rfl⟩⟩
theorem const_int {x : Str} {i : Int} {t : Tok} (X : K.In h) (G : h.Ns mainGlobals mg) (a : PySem.W.nsIn K mainGlobals x = some (some (.int i t))) : ConstP mg x (.int i) := ⟨.int i, _, rfl, PySem.W.mg_of X G a, ⟨t, rfl⟩⟩
theorem const_bl {x : Str} {i : Bool} (X : K.In h) (G : h.Ns mainGlobals mg) (a : PySem.W.nsIn K mainGlobals x = some (some (.bool i))) : ConstP mg x (.bl i) := ⟨.bl i, _, rfl, PySem.W.mg_of X G a, rfl⟩
theorem const_non {x : Str} (X : K.In h) (G : h.Ns mainGlobals mg) (a : PySem.W.nsIn K mainGlobals x = some (some .none)) : ConstP mg x .non := ⟨.non, _, rfl, PySem.W.mg_of X G a, rfl⟩
end
end MP
end
section
set_option maxRecDepth 100000
set_option maxHeartbeats 1000000
set_option autoImplicit false
/-! MQa: reading mini-Python: what a run gives. -/
namespace MP
open PySem
/-- needs no freezing -/
def D.sol : D → Bool
  | .nw _ => false
  | .sl _ => false
  | .fl _ _ => false
  | _ => true
def ResW {α : Type} (r : Res α) (Q : α → MSt → Prop) : Prop :=
  match r with
  | .ok a s => Q a s
  | _ => False
def CW (r : CRes) (Q : D → List HOb → Prop) : Prop :=
  match r with
  | .ok d hp => Q d hp
  | _ => False
structure OQ where
  nx : MSt → Prop
  rt : D → MSt → Prop := fun _ _ => False
  bk : MSt → Prop := fun _ => False
  ct : MSt → Prop := fun _ => False
def OW (o : Out) (q : OQ) : Prop :=
  match o with
  | .nx s => q.nx s
  | .rt d s => q.rt d s
  | .bk s => q.bk s
  | .ct s => q.ct s
  | _ => False
section
variable {α β : Type} {s : MSt} {F : Nat → List D → List HOb → CRes}
theorem resW_ok {a : α} {Q : α → MSt → Prop} : ResW (.ok a s) Q = Q a s := rfl
theorem resW_stuck {Q : α → MSt → Prop} : ResW .stuck Q = False := rfl
theorem resW_bind {r : Res α} {k : α → MSt → Res β} {Q : β → MSt → Prop} : ResW (r.bind k) Q = ResW r fun a s => ResW (k a s) Q := by cases r <;> rfl
theorem resW_opt {o : Option α} {Q : α → MSt → Prop} : ResW (opt o s) Q = ∃ a, o = some a ∧ Q a s := by
  cases o with
  | none => exact propext ⟨fun h => h.elim, fun ⟨_, h, _⟩ => nomatch h⟩
  | some a => exact propext ⟨fun h => ⟨a, rfl, h⟩, fun ⟨_, h, q⟩ => by cases h; exact q⟩
theorem resW_opt2 {o : Option (α × MSt)} {Q : α → MSt → Prop} : ResW (opt2 o) Q = ∃ p, o = some p ∧ Q p.1 p.2 := by
  cases o with
  | none => exact propext ⟨fun h => h.elim, fun ⟨_, h, _⟩ => nomatch h⟩
  | some a => exact propext ⟨fun h => ⟨a, rfl, h⟩, fun ⟨_, h, q⟩ => by cases h; exact q⟩
theorem resW_call {f : Nat} {ds : List D} {Q : D → MSt → Prop} : ResW (callD F f ds s) Q = CW (F f ds s.hp) fun d hp => Q d ⟨s.sl, hp⟩ := by
  unfold callD
  cases F f ds s.hp <;> rfl
theorem resW_ite {c : Prop} [Decidable c] {a b : Res α} {Q : α → MSt → Prop} : ResW (if c then a else b) Q = if c then ResW a Q else ResW b Q := by split <;> rfl
theorem ResW.imp {r : Res α} {Q Q' : α → MSt → Prop} (h : ResW r Q) (i : ∀ a s, Q a s → Q' a s) : ResW r Q' := by
  cases r with
  | ok a s => exact i a s h
  | ex c fs s => exact h
  | stuck => exact h
theorem CW.imp {r : CRes} {Q Q' : D → List HOb → Prop} (h : CW r Q) (i : ∀ a s, Q a s → Q' a s) : CW r Q' := by
  cases r with
  | ok a s => exact i a s h
  | ex c fs s => exact h
  | stuck => exact h
theorem CW.get {r : CRes} {Q : D → List HOb → Prop} (h : CW r Q) : ∃ d hp, r = .ok d hp ∧ Q d hp := by
  cases r with
  | ok a s => exact ⟨a, s, rfl, h⟩
  | ex c fs s => exact h.elim
  | stuck => exact h.elim
theorem oW_nx {q : OQ} : OW (.nx s) q = q.nx s := rfl
theorem oW_rt {q : OQ} {d : D} : OW (.rt d s) q = q.rt d s := rfl
theorem oW_bk {q : OQ} : OW (.bk s) q = q.bk s := rfl
theorem oW_ct {q : OQ} : OW (.ct s) q = q.ct s := rfl
theorem oW_toOut {r : Res α} {k : α → MSt → Out} {q : OQ} : OW (r.toOut k) q = ResW r fun a s => OW (k a s) q := by cases r <;> rfl
theorem oW_andThen {o : Out} {k : MSt → Out} {q : OQ} : OW (o.andThen k) q = OW o { q with nx := fun s => OW (k s) q } := by cases o <;> rfl
theorem oW_ite {c : Prop} [Decidable c] {a b : Out} {q : OQ} : OW (if c then a else b) q = if c then OW a q else OW b q := by split <;> rfl
/-- a for, turn by turn -/
theorem for_ind {items : List D} {body : D → MSt → Out} {q : OQ} (I : Nat → MSt → Prop) (h0 : I 0 s) (hs : ∀ i x s, items[i]? = some x → I i s → OW (body x s) { nx := I (i + 1), rt := q.rt, bk := q.nx, ct := I (i + 1) }) (hd : ∀ s, I items.length s → q.nx s) : OW (forD items body s) q := by
  have go : ∀ (xs : List D) (i : Nat) (s : MSt), items.drop i = xs → i ≤ items.length → I i s → OW (forD xs body s) q := by
    intro xs
    induction xs with
    | nil =>
      intro i s e hi h
      have z : items.length ≤ i := by
        have := congrArg List.length e
        simp at this
        omega
      have z' : i = items.length := by omega
      subst z'
      exact hd s h
    | cons x xs ih =>
      intro i s e hi h
      have hx : items[i]? = some x := by
        rw [← List.head?_drop, e]
        rfl
      have hl := (List.getElem?_eq_some_iff.mp hx).1
      have e2 : items.drop (i + 1) = xs := by
        rw [← List.tail_drop, e]
        rfl
      have w := hs i x s hx h
      unfold forD
      cases r : body x s with
      | nx s1 =>
        rw [r] at w
        exact ih (i + 1) s1 e2 (by omega) w
      | ct s1 =>
        rw [r] at w
        exact ih (i + 1) s1 e2 (by omega) w
      | bk s1 => rw [r] at w; exact w
      | rt d s1 => rw [r] at w; exact w
      | ex c fs s1 => rw [r] at w; exact w
      | stuck => rw [r] at w; exact w
  exact go items 0 s rfl (Nat.zero_le _) h0
/-- a comprehension, turn by turn -/
theorem lc_ind {items : List D} {turn : D → MSt → Res (Option D)} {Q : List D → MSt → Prop} (I : Nat → List D → MSt → Prop) (h0 : I 0 [] s)
    (hs : ∀ i x acc s, items[i]? = some x → I i acc s → ResW (turn x s) fun o s1 => match o with
      | some d => acc.length < sizeLine ∧ I (i + 1) (acc ++ [d]) s1
      | none => I (i + 1) acc s1) (hd : ∀ acc s, I items.length acc s → Q acc s) : ResW (lcD items turn [] s) Q := by
  have go : ∀ (xs : List D) (i : Nat) (acc : List D) (s : MSt), items.drop i = xs → i ≤ items.length → I i acc s → ResW (lcD xs turn acc s) Q := by
    intro xs
    induction xs with
    | nil =>
      intro i acc s e hi h
      have z : items.length ≤ i := by
        have := congrArg List.length e
        simp at this
        omega
      have z' : i = items.length := by omega
      subst z'
      exact hd acc s h
    | cons x xs ih =>
      intro i acc s e hi h
      have hx : items[i]? = some x := by
        rw [← List.head?_drop, e]
        rfl
      have hl := (List.getElem?_eq_some_iff.mp hx).1
      have e2 : items.drop (i + 1) = xs := by
        rw [← List.tail_drop, e]
        rfl
      have w := hs i x acc s hx h
      unfold lcD
      rw [resW_bind]
      refine ResW.imp w fun o s1 w => ?_
      cases o with
      | none => exact ih (i + 1) acc s1 e2 (by omega) w
      | some d =>
        show ResW (if acc.length < sizeLine then lcD xs turn (acc ++ [d]) s1 else .stuck) Q
        rw [if_pos w.1]
        exact ih (i + 1) _ s1 e2 (by omega) w.2
  exact go items 0 [] s rfl (Nat.zero_le _) h0
theorem resW_noEx {r : Res α} {Q : α → MSt → Prop} : ResW (noEx r) Q = ResW r Q := by cases r <;> rfl
end
/-- a run by its body -/
theorem run_of {tab : Nat → Option Fn} {n f : Nat} {fn : Fn} {ds : List D} {hp : List HOb} {Q : D → List HOb → Prop} (ht : tab f = some fn) (hn : ds.length = fn.np)
    (h : OW (evSs (runF tab n) fn.body (startS fn ds hp)) { nx := fun s => Q .non (gc hp.length .non s.hp), rt := fun d s => CW (finC hp.length (.rt d s)) Q }) : CW (runF tab (n + 1) f ds hp) Q := by
  unfold runF
  rw [ht]
  show CW (if ds.length = fn.np then _ else _) Q
  rw [if_pos hn]
  cases r : evSs (runF tab n) fn.body (startS fn ds hp) with
  | nx s => rw [r] at h; exact h
  | rt d s => rw [r] at h; exact h
  | bk s => rw [r] at h; exact h.elim
  | ct s => rw [r] at h; exact h.elim
  | ex c fs s => rw [r] at h; exact h.elim
  | stuck => rw [r] at h; exact h.elim
end MP
end
section
set_option maxRecDepth 100000
set_option maxHeartbeats 1000000
set_option autoImplicit false
/-! MQb: reading mini-Python, step by step. -/
namespace MP
open PySem
section
variable {F : Nat → List D → List HOb → CRes} {s s1 s2 : MSt} {hp : List HOb} {sl : List (Option SV)} {q : OQ} {Q : D → MSt → Prop} {Qb : Bool → MSt → Prop} {Qs : List D → MSt → Prop} {a b d e : E} {c : C} {cs : Cs} {es : Es} {st : S} {ss x y : Ss} {t : T} {ts : Ts} {it : I} {i : Nat} {k : Bool} {dx dy dz : D} {op : Operator} {co o1 o2 : CmpOp}
/-! statements -/
theorem s_cons (h : OW (evS F st s) { q with nx := fun s1 => OW (evSs F ss s1) q }) : OW (evSs F (.cons st ss) s) q := by unfold evSs; rw [oW_andThen]; exact h
theorem s_nil (h : q.nx s) : OW (evSs F .nil s) q := by unfold evSs; exact h
theorem s_expr (h : ResW (evE F e s) fun _ s1 => q.nx s1) : OW (evS F (.expr e) s) q := by unfold evS; rw [oW_toOut]; exact h
theorem s_asg (h : ResW (evE F e s) fun d s1 => ResW (asgT F t d s1) fun _ s2 => q.nx s2) : OW (evS F (.asg t e) s) q := by
  unfold evS
  rw [oW_toOut]
  exact h.imp fun d s1 z => by rw [oW_toOut]; exact z
theorem s_aug (h1 : readVar i s = some dx) (h : ResW (evE F e s) fun y s1 => ∃ z, augD op dx y = some z ∧ q.nx (s1.setS i (some (.val z)))) : OW (evS F (.aug i op e) s) q := by
  unfold evS
  rw [h1]
  show OW ((evE F e s).toOut _) q
  rw [oW_toOut]
  exact h.imp fun d s1 ⟨z, z1, z2⟩ => by
    rw [z1]
    exact z2
theorem s_ite (h : ResW (evC F c s) fun b s1 => OW (if b then evSs F x s1 else evSs F y s1) q) : OW (evS F (.ite c x y) s) q := by unfold evS; rw [oW_toOut]; exact h
theorem s_for (h : ResW (evI F false it s) fun p s1 => OW (forD p.1 (fun x s2 => (asgT F t x s2).toOut fun _ s3 => evSs F ss s3) s1) q) : OW (evS F (.forr t it ss) s) q := by unfold evS; rw [oW_toOut]; exact h
theorem s_ret (h : ResW (evE F e s) fun d s1 => q.rt d s1) : OW (evS F (.ret e) s) q := by unfold evS; rw [oW_toOut]; exact h
theorem s_retN (h : q.rt .non s) : OW (evS F .retN s) q := by unfold evS; exact h
theorem s_brk (h : q.bk s) : OW (evS F .brk s) q := by unfold evS; exact h
theorem s_cnt (h : q.ct s) : OW (evS F .cnt s) q := by unfold evS; exact h
theorem s_pass (h : q.nx s) : OW (evS F .pass s) q := by unfold evS; exact h
theorem s_kill {is : List Nat} (h : q.nx (kill is s)) : OW (evS F (.kill is) s) q := by unfold evS; exact h
/-! targets -/
theorem a_name (h1 : storeS i dx s = some s1) (h : Q .non s1) : ResW (asgT F (.name i) dx s) fun _ s2 => Q .non s2 := by
  unfold asgT
  rw [h1]
  exact h
theorem t_name {Q0 : Unit → MSt → Prop} (h1 : storeS i dx s = some s1) (h : Q0 () s1) : ResW (asgT F (.name i) dx s) Q0 := by
  unfold asgT
  rw [h1]
  exact h
theorem t_tup {Q0 : Unit → MSt → Prop} {xs : List D} (h1 : xs.length = ts.len) (h : ResW (asgTs F ts xs s) Q0) : ResW (asgT F (.tup ts) (.tup xs) s) Q0 := by
  unfold asgT
  show ResW (if xs.length = ts.len then asgTs F ts xs s else .stuck) Q0
  rw [if_pos h1]
  exact h
theorem ts_nil {Q0 : Unit → MSt → Prop} (h : Q0 () s) : ResW (asgTs F .nil [] s) Q0 := by unfold asgTs; exact h
theorem ts_cons {Q0 : Unit → MSt → Prop} {xs : List D} (h : ResW (asgT F t dx s) fun _ s1 => ResW (asgTs F ts xs s1) Q0) : ResW (asgTs F (.cons t ts) (dx :: xs) s) Q0 := by
  unfold asgTs
  show ResW ((asgT F t dx s).bind _) Q0
  rw [resW_bind]
  exact h
theorem t_ix {Q0 : Unit → MSt → Prop} (h : ResW (evE F a s) fun x s1 => ResW (evE F b s1) fun y s2 => ∃ p, frz dx s2 = some p ∧ ∃ s4, setIx x y p.1 p.2 = some s4 ∧ Q0 () s4) : ResW (asgT F (.ix a b) dx s) Q0 := by
  unfold asgT
  rw [resW_bind]
  refine h.imp fun x s1 z => ?_
  rw [resW_bind]
  refine z.imp fun y s2 ⟨p, z1, s4, z2, z3⟩ => ?_
  rw [z1]
  show ResW ((opt (setIx x y p.1 p.2) p.2).bind _) Q0
  rw [z2]
  exact z3
/-! expressions -/
theorem e_non (h : Q .non s) : ResW (evE F .non s) Q := by unfold evE; exact h
theorem e_bl {k : Bool} (h : Q (.bl k) s) : ResW (evE F (.bl k) s) Q := by unfold evE; exact h
theorem e_int {k : Int} (h : Q (.int k) s) : ResW (evE F (.int k) s) Q := by unfold evE; exact h
theorem e_str {k : Str} (h : Q (.str k) s) : ResW (evE F (.str k) s) Q := by unfold evE; exact h
theorem e_glob {k : Str} (h : Q dx s) : ResW (evE F (.glob k dx) s) Q := by unfold evE; exact h
theorem e_val (h1 : sl[i]? = some (some (.val dx))) (h : Q dx ⟨sl, hp⟩) : ResW (evE F (.var i) ⟨sl, hp⟩) Q := by
  unfold evE readVar getS
  show ResW (opt (Option.map _ (sl[i]?.join)) _) Q
  rw [h1]
  exact h
theorem e_own {xs : List D} (h1 : sl[i]? = some (some (.own xs))) (h : Q (.sl i) ⟨sl, hp⟩) : ResW (evE F (.var i) ⟨sl, hp⟩) Q := by
  unfold evE readVar getS
  show ResW (opt (Option.map _ (sl[i]?.join)) _) Q
  rw [h1]
  exact h
theorem e_bin (h : ResW (evE F a s) fun x s1 => ResW (evE F b s1) fun y s2 => ∃ z, binD op x y s2 = some z ∧ Q z s2) : ResW (evE F (.bin op a b) s) Q := by
  unfold evE
  rw [resW_bind]
  refine h.imp fun x s1 z => ?_
  rw [resW_bind]
  exact z.imp fun y s2 z => by rw [resW_opt]; exact z
theorem e_neg (h : ResW (evE F a s) fun x s1 => ∃ z, negD x = some z ∧ Q z s1) : ResW (evE F (.neg a) s) Q := by
  unfold evE
  rw [resW_bind]
  exact h.imp fun x s1 z => by rw [resW_opt]; exact z
theorem e_not (h : ResW (evC F c s) fun k s1 => Q (.bl (!k)) s1) : ResW (evE F (.not c) s) Q := by
  unfold evE
  rw [resW_bind]
  exact h
theorem e_cmp (h : ResW (evE F a s) fun x s1 => ResW (evE F b s1) fun y s2 => ∃ z, cmpD co x y s2 = some z ∧ Q (.bl z) s2) : ResW (evE F (.cmp co a b) s) Q := by
  unfold evE
  rw [resW_bind]
  refine h.imp fun x s1 z => ?_
  rw [resW_bind]
  exact z.imp fun y s2 z => by rw [resW_bind, resW_opt]; exact z
theorem e_chain (h : ResW (evE F a s) fun x s1 => ResW (evE F b s1) fun y s2 => ∃ z, cmpD o1 x y s2 = some z ∧ if z then ResW (evE F d s2) fun u s3 => ∃ z, cmpD o2 y u s3 = some z ∧ Q (.bl z) s3 else Q (.bl false) s2) : ResW (evE F (.chain o1 o2 a b d) s) Q := by
  unfold evE
  rw [resW_bind]
  refine h.imp fun x s1 z => ?_
  rw [resW_bind]
  refine z.imp fun y s2 ⟨z, z1, z2⟩ => ?_
  rw [resW_bind, z1]
  show ResW (if z then _ else _) Q
  cases z with
  | false => exact z2
  | true =>
    have z2' : ResW (evE F d s2) fun u s3 => ∃ z, cmpD o2 y u s3 = some z ∧ Q (.bl z) s3 := z2
    show ResW ((evE F d s2).bind _) Q
    rw [resW_bind]
    exact z2'.imp fun u s3 z => by rw [resW_bind, resW_opt]; exact z
theorem e_ite (h : ResW (evC F c s) fun k s1 => if k then ResW (evE F a s1) Q else ResW (evE F b s1) Q) : ResW (evE F (.ite c a b) s) Q := by
  unfold evE
  rw [resW_bind]
  exact h.imp fun k s1 z => by cases k <;> exact z
theorem e_ix (h : ResW (evE F a s) fun x s1 => ResW (evE F b s1) fun y s2 => ∃ z, ixD x y s2 = some z ∧ Q z s2) : ResW (evE F (.ix a b) s) Q := by
  unfold evE
  rw [resW_bind]
  refine h.imp fun x s1 z => ?_
  rw [resW_bind]
  exact z.imp fun y s2 z => by rw [resW_opt]; exact z
theorem e_slc {lo hi : P} (h : ResW (evE F a s) fun x s1 => ResW (evP F lo s1) fun l s2 => ResW (evP F hi s2) fun u s3 => ∃ z, slcD x l u s3 = some z ∧ Q z s3) : ResW (evE F (.slc a lo hi) s) Q := by
  unfold evE
  rw [resW_bind]
  refine h.imp fun x s1 z => ?_
  rw [resW_bind]
  refine z.imp fun y s2 z => ?_
  rw [resW_bind]
  exact z.imp fun y s2 z => by rw [resW_opt]; exact z
theorem p_absent {Qp : Option Int → MSt → Prop} (h : Qp none s) : ResW (evP F .absent s) Qp := by unfold evP; exact h
theorem p_of {Qp : Option Int → MSt → Prop} (h : ResW (evE F a s) fun x s1 => ∃ z, part x = some z ∧ Qp z s1) : ResW (evP F (.of a) s) Qp := by
  unfold evP
  rw [resW_bind]
  exact h.imp fun x s1 z => by rw [resW_opt]; exact z
theorem e_tup (h : ResW (evFs F es s) fun xs s1 => xs.length ≤ sizeLine ∧ Q (.tup xs) s1) : ResW (evE F (.tup es) s) Q := by
  unfold evE
  rw [resW_bind]
  exact h.imp fun xs s1 z => by rw [if_pos z.1]; exact z.2
theorem e_lst (h : ResW (evFs F es s) fun xs s1 => xs.length ≤ sizeLine ∧ Q (.nw xs) s1) : ResW (evE F (.lst es) s) Q := by
  unfold evE
  rw [resW_bind]
  exact h.imp fun xs s1 z => by rw [if_pos z.1]; exact z.2
theorem e_box (h : ResW (evFs F es s) fun xs s1 => xs.length ≤ sizeLine ∧ Q (.ref s1.hp.length) ⟨s1.sl, s1.hp ++ [.box xs]⟩) : ResW (evE F (.box es) s) Q := by
  unfold evE
  rw [resW_bind]
  exact h.imp fun xs s1 z => by rw [if_pos z.1]; exact z.2
theorem e_call {f : Nat} (h : ResW (evFs F es s) fun xs s1 => CW (F f xs s1.hp) fun d hp => Q d ⟨s1.sl, hp⟩) : ResW (evE F (.call f es) s) Q := by
  unfold evE
  rw [resW_bind]
  exact h.imp fun xs s1 z => by rw [resW_call]; exact z
theorem e_bi {b : Bi} (h : ResW (evEs F es s) fun xs s1 => ∃ z, biD b xs s1 = some z ∧ Q z s1) : ResW (evE F (.bi b es) s) Q := by
  unfold evE
  rw [resW_bind]
  exact h.imp fun xs s1 z => by rw [resW_opt]; exact z
theorem e_bm {m : Bm} (h : ResW (evE F a s) fun x s0 => bmK m x s0 = some () ∧ ResW (evFs F es s0) fun xs s2 => ∃ p, bmD m x xs s2 = some p ∧ Q p.1 p.2) : ResW (evE F (.bm m a es) s) Q := by
  unfold evE
  rw [resW_bind]
  refine h.imp fun x s0 z => ?_
  rw [resW_bind, z.1]
  show ResW ((evFs F es s0).bind _) Q
  rw [resW_bind]
  exact z.2.imp fun xs s2 z => by rw [resW_opt2]; exact z
theorem e_lc {elt : E} {ifs : Cs} {vs : List Nat} (h : ResW (evI F true it s) fun p s1 => lkFree p.2.1 vs = true ∧ ResW (lcD p.1 (fun x s2 => noEx ((asgT F t x s2).bind fun _ s3 => (evCs F true ifs s3).bind fun b s4 =>
      if b then (evE F elt s4).bind fun d s5 => (opt2 (frz d s5)).bind fun y s6 => .ok (some y) (kill vs s6) else .ok none (kill vs s4))) [] (kill vs s1)) fun ds s3 => Q (.nw ds) (if p.2.2 then unlockD p.2.1 s3 else s3)) : ResW (evE F (.lc elt t it ifs vs) s) Q := by
  unfold evE
  rw [resW_bind]
  refine h.imp fun p s1 z => ?_
  rw [if_pos z.1, resW_bind]
  exact z.2
/-- a comprehension's turn -/
theorem lc_turn {elt : E} {ifs : Cs} {vs : List Nat} {Qo : Option D → MSt → Prop} (h : ResW (asgT F t dx s) fun _ s3 => ResW (evCs F true ifs s3) fun b s4 => if b then ResW (evE F elt s4) fun d s5 => ∃ p, frz d s5 = some p ∧ Qo (some p.1) (kill vs p.2) else Qo none (kill vs s4)) :
    ResW (noEx ((asgT F t dx s).bind fun _ s3 => (evCs F true ifs s3).bind fun b s4 => if b then (evE F elt s4).bind fun d s5 => (opt2 (frz d s5)).bind fun y s6 => .ok (some y) (kill vs s6) else .ok none (kill vs s4))) Qo := by
  rw [resW_noEx, resW_bind]
  refine h.imp fun _ s3 z => ?_
  rw [resW_bind]
  refine z.imp fun b s4 z => ?_
  cases b with
  | false => exact z
  | true =>
    have z' : ResW (evE F elt s4) fun d s5 => ∃ p, frz d s5 = some p ∧ Qo (some p.1) (kill vs p.2) := z
    show ResW ((evE F elt s4).bind _) Qo
    rw [resW_bind]
    refine z'.imp fun d s5 ⟨p, z1, z2⟩ => ?_
    rw [z1]
    exact z2
theorem es_nil (h : Qs [] s) : ResW (evEs F .nil s) Qs := by unfold evEs; exact h
theorem es_cons (h : ResW (evE F a s) fun x s1 => ResW (evEs F es s1) fun xs s2 => Qs (x :: xs) s2) : ResW (evEs F (.cons a es) s) Qs := by
  unfold evEs
  rw [resW_bind]
  refine h.imp fun x s1 z => ?_
  rw [resW_bind]
  exact z
theorem fs_nil (h : Qs [] s) : ResW (evFs F .nil s) Qs := by unfold evFs; exact h
theorem fs_cons (h : ResW (evE F a s) fun x s1 => ResW (evFs F es s1) fun xs s2 => ∃ p, frz x s2 = some p ∧ Qs (p.1 :: xs) p.2) : ResW (evFs F (.cons a es) s) Qs := by
  unfold evFs
  rw [resW_bind]
  refine h.imp fun x s1 z => ?_
  rw [resW_bind]
  refine z.imp fun xs s2 ⟨p, z1, z2⟩ => ?_
  rw [resW_bind, z1]
  exact z2
/-! tests -/
theorem c_of (h : ResW (evE F a s) fun x s1 => ∃ k, truth x s1 = some k ∧ Qb k s1) : ResW (evC F (.of a) s) Qb := by
  unfold evC
  rw [resW_bind]
  exact h.imp fun x s1 z => by rw [resW_opt]; exact z
theorem c_not (h : ResW (evC F c s) fun k s1 => Qb (!k) s1) : ResW (evC F (.not c) s) Qb := by
  unfold evC
  rw [resW_bind]
  exact h
theorem c_bool (h : ResW (evCs F k cs s) Qb) : ResW (evC F (.bool k cs) s) Qb := by unfold evC; exact h
theorem cs_nil (h : Qb k s) : ResW (evCs F k .nil s) Qb := by unfold evCs; exact h
theorem cs_cons (h : ResW (evC F c s) fun b s1 => if b == k then ResW (evCs F k cs s1) Qb else Qb b s1) : ResW (evCs F k (.cons c cs) s) Qb := by
  unfold evCs
  rw [resW_bind]
  refine h.imp fun b s1 z => ?_
  split at z
  · rename_i h
    rw [if_pos h]
    exact z
  · rename_i h
    rw [if_neg h]
    exact z
/-! walks -/
theorem i_of {lk : Bool} {Qi : List D × D × Bool → MSt → Prop} (h : ResW (evE F a s) fun x s1 => ∃ xs, wview x s1 = some xs ∧ ∃ p, fixD lk x s1 = some p ∧ Qi (xs, x, p.1) p.2) : ResW (evI F lk (.of a) s) Qi := by
  unfold evI
  rw [resW_bind]
  refine h.imp fun x s1 ⟨xs, z1, p, z2, z3⟩ => ?_
  rw [z1]
  show ResW ((opt2 (fixD lk x s1)).bind _) Qi
  rw [z2]
  exact z3
theorem i_enum {lk : Bool} {Qi : List D × D × Bool → MSt → Prop} (h : ResW (evE F a s) fun x s1 => ∃ xs, sview x s1 = some xs ∧ ∃ p, fixD lk x s1 = some p ∧ Qi (enumD 0 xs, x, p.1) p.2) : ResW (evI F lk (.enum a) s) Qi := by
  unfold evI
  rw [resW_bind]
  refine h.imp fun x s1 ⟨xs, z1, p, z2, z3⟩ => ?_
  rw [z1]
  show ResW ((opt2 (fixD lk x s1)).bind _) Qi
  rw [z2]
  exact z3
theorem i_rng {lk : Bool} {Qi : List D × D × Bool → MSt → Prop} (h : ResW (evE F a s) fun x s1 => ∃ xs, rngV (.int 0) x = some xs ∧ Qi (xs, .non, false) s1) : ResW (evI F lk (.rng a) s) Qi := by
  unfold evI
  rw [resW_bind]
  refine h.imp fun x s1 ⟨xs, z1, z2⟩ => ?_
  rw [z1]
  exact z2
theorem i_rng2 {lk : Bool} {Qi : List D × D × Bool → MSt → Prop} (h : ResW (evE F a s) fun x s1 => ResW (evE F b s1) fun y s2 => ∃ xs, rngV x y = some xs ∧ Qi (xs, .non, false) s2) : ResW (evI F lk (.rng2 a b) s) Qi := by
  unfold evI
  rw [resW_bind]
  refine h.imp fun x s1 z => ?_
  rw [resW_bind]
  refine z.imp fun y s2 ⟨xs, z1, z2⟩ => ?_
  rw [z1]
  exact z2
/-- for's turn -/
theorem for_turn (h : ResW (asgT F t dx s) fun _ s3 => OW (evSs F ss s3) q) : OW ((asgT F t dx s).toOut fun _ s3 => evSs F ss s3) q := by rw [oW_toOut]; exact h
/-! forms that keep the state plain -/
theorem s_killE {is : List Nat} (h1 : kill is s = s1) (h : q.nx s1) : OW (evS F (.kill is) s) q := by
  subst h1
  exact s_kill h
theorem frz_sol (hd : dx.sol = true) : frz dx s = some (dx, s) := by
  cases dx with
  | nw xs => cases hd
  | sl i => cases hd
  | fl n f => cases hd
  | _ => rfl
theorem t_nameV {Q0 : Unit → MSt → Prop} {sl' : List (Option SV)} (hd : dx.sol = true) (h1 : sl.set i (some (.val dx)) = sl') (h : Q0 () ⟨sl', hp⟩) : ResW (asgT F (.name i) dx ⟨sl, hp⟩) Q0 := by
  subst h1
  refine t_name ?_ h
  cases dx with
  | nw xs => cases hd
  | sl i => cases hd
  | fl n f => cases hd
  | _ => rfl
theorem fr_sol {P : D × MSt → Prop} (hd : dx.sol = true) (h : P (dx, s)) : ∃ p, frz dx s = some p ∧ P p := ⟨_, frz_sol hd, h⟩
theorem t_nameI {k : Int} {Q0 : Unit → MSt → Prop} {sl' : List (Option SV)} (h1 : sl.set i (some (.val (.int k))) = sl') (h : Q0 () ⟨sl', hp⟩) : ResW (asgT F (.name i) (.int k) ⟨sl, hp⟩) Q0 := by
  subst h1
  exact t_name rfl h
theorem t_nameS {k : Str} {Q0 : Unit → MSt → Prop} {sl' : List (Option SV)} (h1 : sl.set i (some (.val (.str k))) = sl') (h : Q0 () ⟨sl', hp⟩) : ResW (asgT F (.name i) (.str k) ⟨sl, hp⟩) Q0 := by
  subst h1
  exact t_name rfl h
theorem t_nameB {k : Bool} {Q0 : Unit → MSt → Prop} {sl' : List (Option SV)} (h1 : sl.set i (some (.val (.bl k))) = sl') (h : Q0 () ⟨sl', hp⟩) : ResW (asgT F (.name i) (.bl k) ⟨sl, hp⟩) Q0 := by
  subst h1
  exact t_name rfl h
theorem t_name0 {Q0 : Unit → MSt → Prop} {sl' : List (Option SV)} (h1 : sl.set i (some (.val .non)) = sl') (h : Q0 () ⟨sl', hp⟩) : ResW (asgT F (.name i) .non ⟨sl, hp⟩) Q0 := by
  subst h1
  exact t_name rfl h
theorem t_nameT {xs : List D} {Q0 : Unit → MSt → Prop} {sl' : List (Option SV)} (h1 : sl.set i (some (.val (.tup xs))) = sl') (h : Q0 () ⟨sl', hp⟩) : ResW (asgT F (.name i) (.tup xs) ⟨sl, hp⟩) Q0 := by
  subst h1
  exact t_name rfl h
theorem t_nameL {xs : List D} {Q0 : Unit → MSt → Prop} {sl' : List (Option SV)} (h1 : sl.set i (some (.val (.lst xs))) = sl') (h : Q0 () ⟨sl', hp⟩) : ResW (asgT F (.name i) (.lst xs) ⟨sl, hp⟩) Q0 := by
  subst h1
  exact t_name rfl h
theorem t_nameR {n : Nat} {Q0 : Unit → MSt → Prop} {sl' : List (Option SV)} (h1 : sl.set i (some (.val (.ref n))) = sl') (h : Q0 () ⟨sl', hp⟩) : ResW (asgT F (.name i) (.ref n) ⟨sl, hp⟩) Q0 := by
  subst h1
  exact t_name rfl h
theorem t_nameN {xs : List D} {Q0 : Unit → MSt → Prop} {sl' : List (Option SV)} (h1 : sl.set i (some (.own xs)) = sl') (h : Q0 () ⟨sl', hp⟩) : ResW (asgT F (.name i) (.nw xs) ⟨sl, hp⟩) Q0 := by
  subst h1
  exact t_name rfl h
section
variable {P : D × MSt → Prop} {xs : List D}
theorem fr_int {k : Int} (h : P (.int k, s)) : ∃ p, frz (.int k) s = some p ∧ P p := ⟨_, rfl, h⟩
theorem fr_str {k : Str} (h : P (.str k, s)) : ∃ p, frz (.str k) s = some p ∧ P p := ⟨_, rfl, h⟩
theorem fr_bl {k : Bool} (h : P (.bl k, s)) : ∃ p, frz (.bl k) s = some p ∧ P p := ⟨_, rfl, h⟩
theorem fr_non (h : P (.non, s)) : ∃ p, frz .non s = some p ∧ P p := ⟨_, rfl, h⟩
theorem fr_tup (h : P (.tup xs, s)) : ∃ p, frz (.tup xs) s = some p ∧ P p := ⟨_, rfl, h⟩
theorem fr_lst (h : P (.lst xs, s)) : ∃ p, frz (.lst xs) s = some p ∧ P p := ⟨_, rfl, h⟩
theorem fr_ref {n : Nat} (h : P (.ref n, s)) : ∃ p, frz (.ref n) s = some p ∧ P p := ⟨_, rfl, h⟩
theorem fr_scr {ns : List Int} (h : P (.scr ns, s)) : ∃ p, frz (.scr ns) s = some p ∧ P p := ⟨_, rfl, h⟩
theorem fr_nw (h : P (.lst xs, s)) : ∃ p, frz (.nw xs) s = some p ∧ P p := ⟨_, rfl, h⟩
end
section
variable {j k : Int} {xs ys : List D} {z z' : Str} {PD : D → Prop}
theorem b_add (h : PD (.int (j + k))) : ∃ z, binD .Add (.int j) (.int k) s = some z ∧ PD z := ⟨_, rfl, h⟩
theorem b_sub (h : PD (.int (j - k))) : ∃ z, binD .Sub (.int j) (.int k) s = some z ∧ PD z := ⟨_, rfl, h⟩
theorem b_mul (h0 : smallMul j k = true) (h : PD (.int (j * k))) : ∃ z, binD .Mult (.int j) (.int k) s = some z ∧ PD z := ⟨_, by show Option.map D.int (if smallMul j k then some (j * k) else none) = _; rw [if_pos h0]; rfl, h⟩
theorem b_mod (h0 : 0 < k) (h : PD (.int (j % k))) : ∃ z, binD .Mod (.int j) (.int k) s = some z ∧ PD z := ⟨_, by show Option.map D.int (if 0 < k then some (j % k) else none) = _; rw [if_pos h0]; rfl, h⟩
theorem b_div (h0 : 0 < k ∧ k < 1073741824) (h : PD (.int (j / k))) : ∃ z, binD .FloorDiv (.int j) (.int k) s = some z ∧ PD z := ⟨_, by show Option.map D.int (if 0 < k ∧ k < 1073741824 then some (j / k) else none) = _; rw [if_pos h0]; rfl, h⟩
theorem b_pow (h0 : 0 ≤ k ∧ k ≤ 1000000 ∧ j.natAbs < 2 ^ 64) (h : PD (.int (j ^ k.toNat))) : ∃ z, binD .Pow (.int j) (.int k) s = some z ∧ PD z := ⟨_, by show Option.map D.int (if 0 ≤ k ∧ k ≤ 1000000 ∧ j.natAbs < 2 ^ 64 then some (j ^ k.toNat) else none) = _; rw [if_pos h0]; rfl, h⟩
theorem b_cat (h0 : z.length + z'.length ≤ sizeLine) (h : PD (.str (z ++ z'))) : ∃ u, binD .Add (.str z) (.str z') s = some u ∧ PD u := ⟨_, by show (if Operator.Add = .Add ∧ z.length + z'.length ≤ sizeLine then some (D.str (z ++ z')) else none) = _; rw [if_pos ⟨rfl, h0⟩], h⟩
theorem small_r (h : -(2 ^ 64) < k ∧ k < 2 ^ 64) : smallMul j k = true := by
  unfold smallMul
  simp only [Bool.or_eq_true, Bool.and_eq_true, decide_eq_true_eq]
  exact .inr h
theorem small_l (h : -(2 ^ 64) < j ∧ j < 2 ^ 64) : smallMul j k = true := by
  unfold smallMul
  simp only [Bool.or_eq_true, Bool.and_eq_true, decide_eq_true_eq]
  exact .inl h
theorem atI_of {α : Type} {xs : List α} {x : α} (h0 : 0 ≤ j) (h : xs[j.toNat]? = some x) : L2.atI xs j = some x := by
  have hl := (List.getElem?_eq_some_iff.mp h).1
  unfold L2.atI L2.ixN
  rw [if_pos h0, if_pos (by omega)]
  exact h
theorem x_tup (h1 : L2.atI xs j = some dz) (h : PD dz) : ∃ z, ixD (.tup xs) (.int j) s = some z ∧ PD z := ⟨_, h1, h⟩
theorem x_lst (h1 : L2.atI xs j = some dz) (h : PD dz) : ∃ z, ixD (.lst xs) (.int j) s = some z ∧ PD z := ⟨_, h1, h⟩
theorem x_nw (h1 : L2.atI xs j = some dz) (h : PD dz) : ∃ z, ixD (.nw xs) (.int j) s = some z ∧ PD z := ⟨_, h1, h⟩
theorem x_scr {ns : List Int} {k : Int} (h1 : L2.atI ns j = some k) (h : PD (.int k)) : ∃ z, ixD (.scr ns) (.int j) s = some z ∧ PD z := ⟨_, by show (L2.atI ns j).map D.int = _; rw [h1]; rfl, h⟩
end
end
end MP
end
section
set_option maxRecDepth 100000
set_option maxHeartbeats 1000000
set_option autoImplicit false
/-! MQc: reading mini-Python: data. -/
namespace MP
open PySem
section
variable {F : Nat → List D → List HOb → CRes} {s s1 s2 : MSt} {hp : List HOb} {sl : List (Option SV)} {q : OQ} {Q : D → MSt → Prop} {Qb : Bool → MSt → Prop} {P : Bool → Prop} {PD : D → Prop} {i : Nat} {n : Nat} {j k : Int} {xs ys : List D} {z z' : Str} {dx dy dz : D}
/-! lists one reads -/
theorem x_ref {hx : hp[n]? = some (.box xs)} (h1 : L2.atI xs j = some dz) (h : PD dz) : ∃ z, ixD (.ref n) (.int j) ⟨sl, hp⟩ = some z ∧ PD z := by
  refine ⟨_, ?_, h⟩
  show Option.bind (match hp[n]? with
    | some (.box xs) => some xs
    | _ => none) _ = _
  rw [hx]
  exact h1
theorem x_own (hx : sl[i]? = some (some (.own xs))) (h1 : L2.atI xs j = some dz) (h : PD dz) : ∃ z, ixD (.sl i) (.int j) ⟨sl, hp⟩ = some z ∧ PD z := by
  refine ⟨_, ?_, h⟩
  show Option.bind (Option.bind (sl[i]?.join) svList) _ = _
  rw [hx]
  exact h1
theorem x_str {c : Nat} (h0 : z.length ≤ sizeLine) (h1 : L2.atI z.cps.toList j = some c) (h : PD (.str ⟨#[c]⟩)) : ∃ u, ixD (.str z) (.int j) s = some u ∧ PD u := by
  refine ⟨_, ?_, h⟩
  show (if z.length ≤ sizeLine then (L2.atI z.cps.toList j).map fun c => D.str ⟨#[c]⟩ else none) = _
  rw [if_pos h0, h1]
  rfl
/-! comparing -/
theorem k_lt (h : P (decide (j < k))) : ∃ z, cmpD .Lt (.int j) (.int k) s = some z ∧ P z := ⟨_, rfl, h⟩
theorem k_le (h : P (decide (j ≤ k))) : ∃ z, cmpD .LtE (.int j) (.int k) s = some z ∧ P z := ⟨_, rfl, h⟩
theorem k_gt (h : P (decide (k < j))) : ∃ z, cmpD .Gt (.int j) (.int k) s = some z ∧ P z := ⟨_, rfl, h⟩
theorem k_ge (h : P (decide (k ≤ j))) : ∃ z, cmpD .GtE (.int j) (.int k) s = some z ∧ P z := ⟨_, rfl, h⟩
theorem k_eqi (h : P (decide (j = k))) : ∃ z, cmpD .Eq (.int j) (.int k) s = some z ∧ P z := ⟨_, rfl, h⟩
theorem k_nei (h : P (!decide (j = k))) : ∃ z, cmpD .NotEq (.int j) (.int k) s = some z ∧ P z := ⟨_, rfl, h⟩
theorem k_eqs (h : P (decide (z = z'))) : ∃ u, cmpD .Eq (.str z) (.str z') s = some u ∧ P u := by
  refine ⟨z == z', rfl, ?_⟩
  have e : (z == z') = decide (z = z') := by by_cases y : z = z' <;> simp [y]
  rw [e]
  exact h
theorem k_nes (h : P (!decide (z = z'))) : ∃ u, cmpD .NotEq (.str z) (.str z') s = some u ∧ P u := by
  refine ⟨!(z == z'), rfl, ?_⟩
  have e : (z == z') = decide (z = z') := by by_cases y : z = z' <;> simp [y]
  rw [e]
  exact h
theorem k_isn (h0 : isNonS dx s = some true ∨ isNonS dx s = some false) (h1 : isNonS dx s = some true → P true) (h2 : isNonS dx s = some false → P false) : ∃ z, cmpD .Is dx .non s = some z ∧ P z := by
  rcases h0 with h0 | h0
  · exact ⟨true, h0, h1 h0⟩
  · exact ⟨false, h0, h2 h0⟩
theorem tr_bl {b : Bool} (h : P b) : ∃ k, truth (.bl b) s = some k ∧ P k := ⟨_, rfl, h⟩
theorem tr_int (h : P (!decide (j = 0))) : ∃ k, truth (.int j) s = some k ∧ P k := by
  refine ⟨_, rfl, ?_⟩
  have e : (j != 0) = !decide (j = 0) := by by_cases y : j = 0 <;> simp [y]
  rw [e]
  exact h
theorem tr_non (h : P false) : ∃ k, truth .non s = some k ∧ P k := ⟨_, rfl, h⟩
/-! forks -/
theorem o_fork {p : Prop} [Decidable p] {x y : Out} (h1 : p → OW x q) (h2 : ¬ p → OW y q) : OW (if decide p = true then x else y) q := by
  by_cases h : p
  · rw [if_pos (decide_eq_true h)]; exact h1 h
  · rw [if_neg (by simpa using h)]; exact h2 h
theorem o_forkN {p : Prop} [Decidable p] {x y : Out} (h1 : ¬ p → OW x q) (h2 : p → OW y q) : OW (if (!decide p) = true then x else y) q := by
  by_cases h : p
  · rw [if_neg (by simpa using h)]; exact h2 h
  · rw [if_pos (by simpa using h)]; exact h1 h
theorem o_true {x y : Out} (h : OW x q) : OW (if true = true then x else y) q := h
theorem o_false {x y : Out} (h : OW y q) : OW (if false = true then x else y) q := h
theorem o_ntrue {x y : Out} (h : OW y q) : OW (if (!true) = true then x else y) q := h
theorem o_nfalse {x y : Out} (h : OW x q) : OW (if (!false) = true then x else y) q := h
theorem p_fork {p : Prop} [Decidable p] {X Y : Prop} (h1 : p → X) (h2 : ¬ p → Y) : if decide p = true then X else Y := by
  by_cases h : p
  · rw [if_pos (decide_eq_true h)]; exact h1 h
  · rw [if_neg (by simpa using h)]; exact h2 h
theorem p_forkN {p : Prop} [Decidable p] {X Y : Prop} (h1 : ¬ p → X) (h2 : p → Y) : if (!decide p) = true then X else Y := by
  by_cases h : p
  · rw [if_neg (by simpa using h)]; exact h2 h
  · rw [if_pos (by simpa using h)]; exact h1 h
theorem p_and {p : Prop} [Decidable p] {X Y : Prop} (h1 : p → X) (h2 : ¬ p → Y) : if (decide p == true) = true then X else Y := by
  by_cases h : p
  · rw [if_pos (by simpa using h)]; exact h1 h
  · rw [if_neg (by simpa using h)]; exact h2 h
theorem p_or {p : Prop} [Decidable p] {X Y : Prop} (h1 : ¬ p → X) (h2 : p → Y) : if (decide p == false) = true then X else Y := by
  by_cases h : p
  · rw [if_neg (by simpa using h)]; exact h2 h
  · rw [if_pos (by simpa using h)]; exact h1 h
theorem p_andN {p : Prop} [Decidable p] {X Y : Prop} (h1 : ¬ p → X) (h2 : p → Y) : if ((!decide p) == true) = true then X else Y := by
  by_cases h : p
  · rw [if_neg (by simpa using h)]; exact h2 h
  · rw [if_pos (by simpa using h)]; exact h1 h
theorem p_orN {p : Prop} [Decidable p] {X Y : Prop} (h1 : p → X) (h2 : ¬ p → Y) : if ((!decide p) == false) = true then X else Y := by
  by_cases h : p
  · rw [if_pos (by simpa using h)]; exact h1 h
  · rw [if_neg (by simpa using h)]; exact h2 h
theorem p_tt {X Y : Prop} (h : X) : if (true == true) = true then X else Y := h
theorem p_tf {X Y : Prop} (h : Y) : if (true == false) = true then X else Y := h
theorem p_ft {X Y : Prop} (h : Y) : if (false == true) = true then X else Y := h
theorem p_ff {X Y : Prop} (h : X) : if (false == false) = true then X else Y := h
theorem p_true {X Y : Prop} (h : X) : if true = true then X else Y := h
theorem p_false {X Y : Prop} (h : Y) : if false = true then X else Y := h
/-! built-in functions -/
theorem bi_int (h : PD (.int j)) : ∃ z, biD .int [.int j] s = some z ∧ PD z := ⟨_, rfl, h⟩
theorem bi_lenT (h : PD (.int xs.length)) : ∃ z, biD .len [.tup xs] s = some z ∧ PD z := ⟨_, rfl, h⟩
theorem bi_lenL (h : PD (.int xs.length)) : ∃ z, biD .len [.lst xs] s = some z ∧ PD z := ⟨_, rfl, h⟩
theorem bi_lenN (h : PD (.int xs.length)) : ∃ z, biD .len [.nw xs] s = some z ∧ PD z := ⟨_, rfl, h⟩
theorem bi_lenC {ns : List Int} (h : PD (.int ns.length)) : ∃ z, biD .len [.scr ns] s = some z ∧ PD z := ⟨_, rfl, h⟩
theorem bi_lenO (hx : sl[i]? = some (some (.own xs))) (h : PD (.int xs.length)) : ∃ z, biD .len [.sl i] ⟨sl, hp⟩ = some z ∧ PD z := by
  refine ⟨_, ?_, h⟩
  show Option.map _ (Option.bind (sl[i]?.join) svList) = _
  rw [hx]
  rfl
theorem bi_tupT (h : PD (.tup xs)) : ∃ z, biD .tuple [.tup xs] s = some z ∧ PD z := ⟨_, rfl, h⟩
theorem bi_tupN (h : PD (.tup xs)) : ∃ z, biD .tuple [.nw xs] s = some z ∧ PD z := ⟨_, rfl, h⟩
theorem bi_tupL (h : PD (.tup xs)) : ∃ z, biD .tuple [.lst xs] s = some z ∧ PD z := ⟨_, rfl, h⟩
theorem bi_tupO (hx : sl[i]? = some (some (.own xs))) (h : PD (.tup xs)) : ∃ z, biD .tuple [.sl i] ⟨sl, hp⟩ = some z ∧ PD z := by
  refine ⟨_, ?_, h⟩
  show Option.map _ (Option.bind (sl[i]?.join) svList) = _
  rw [hx]
  rfl
theorem bi_lisT (h : PD (.nw xs)) : ∃ z, biD .list [.tup xs] s = some z ∧ PD z := ⟨_, rfl, h⟩
theorem bi_lisL (h : PD (.nw xs)) : ∃ z, biD .list [.lst xs] s = some z ∧ PD z := ⟨_, rfl, h⟩
theorem dints_map {ns : List Int} : dints (ns.map D.int) = some ns := by
  induction ns with
  | nil => rfl
  | cons n ns ih => show (dints (ns.map D.int)).map _ = _; rw [ih]; rfl
theorem bi_sumN {ns : List Int} (hx : xs = ns.map D.int) (h : PD (.int ns.sum)) : ∃ z, biD .sum [.nw xs] s = some z ∧ PD z := by
  subst hx
  refine ⟨_, ?_, h⟩
  show Option.map _ (dints _) = _
  rw [dints_map]
  rfl
/-! own lists -/
theorem bk_own {m : Bm} {X : Prop} (hx : sl[i]? = some (some (.own xs))) (h : X) : bmK m (.sl i) ⟨sl, hp⟩ = some () ∧ X := by
  refine ⟨?_, h⟩
  show Option.map _ (Option.bind (sl[i]?.join) svList) = _
  rw [hx]
  rfl
theorem m_app {P : D × MSt → Prop} {sl' : List (Option SV)} (hx : sl[i]? = some (some (.own xs))) (hl : xs.length < sizeLine) (h1 : sl.set i (some (.own (xs ++ [dx]))) = sl') (h : P (.non, ⟨sl', hp⟩)) : ∃ p, bmD .append (.sl i) [dx] ⟨sl, hp⟩ = some p ∧ P p := by
  subst h1
  refine ⟨_, ?_, h⟩
  have e : oview (.sl i) ⟨sl, hp⟩ = some xs := by
    show (match (sl[i]?).join with
      | some (.own xs) => some xs
      | _ => none) = _
    rw [hx]
    rfl
  show (oview (.sl i) ⟨sl, hp⟩).bind _ = _
  rw [e]
  show (if xs.length < sizeLine then _ else _) = _
  rw [if_pos hl]
  rfl
theorem g_own {X : MSt → Prop} {m : Nat} {sl' : List (Option SV)} (hx : sl[i]? = some (some (.own xs))) (h0 : L2.ixN xs.length j = some m) (h1 : sl.set i (some (.own (xs.set m dx))) = sl') (h : X ⟨sl', hp⟩) : ∃ s4, setIx (.sl i) (.int j) dx ⟨sl, hp⟩ = some s4 ∧ X s4 := by
  subst h1
  refine ⟨_, ?_, h⟩
  have e : oview (.sl i) ⟨sl, hp⟩ = some xs := by
    show (match (sl[i]?).join with
      | some (.own xs) => some xs
      | _ => none) = _
    rw [hx]
    rfl
  show (oview (.sl i) ⟨sl, hp⟩).bind _ = _
  rw [e]
  show Option.map _ (L2.ixN xs.length j) = _
  rw [h0]
  rfl
theorem ixN_of {n : Nat} (h0 : 0 ≤ j) (h : j < n) : L2.ixN n j = some j.toNat := by
  unfold L2.ixN
  rw [if_pos h0, if_pos h]
theorem len_ok {m : Nat} {X : Prop} (h1 : m ≤ sizeLine) (h : X) : m ≤ sizeLine ∧ X := ⟨h1, h⟩
theorem szl : sizeLine = 16777216 := by decide
theorem rg {P : List D → Prop} (h0 : (-(2 ^ 62) ≤ j ∧ j < 2 ^ 62) ∧ -(2 ^ 62) ≤ k ∧ k < 2 ^ 62) (h : P (rngD j k)) : ∃ xs, rngV (.int j) (.int k) = some xs ∧ P xs := ⟨_, if_pos h0, h⟩
theorem rng_len {j k : Int} : (rngD j k).length = (k - j).toNat := by simp [rngD]
theorem rng_get {j k : Int} {i : Nat} {x : D} (h : (rngD j k)[i]? = some x) : i < (k - j).toNat ∧ x = .int (j + (i : Int)) := by
  have hl := (List.getElem?_eq_some_iff.mp h).1
  rw [rng_len] at hl
  refine ⟨hl, ?_⟩
  unfold rngD at h
  rw [List.getElem?_map, List.getElem?_range hl] at h
  exact (Option.some.inj h).symm
/-- a for over a range -/
theorem for_rng {body : D → MSt → Out} (I : Nat → MSt → Prop) (h0 : I 0 s) (hs : ∀ i s, i < (k - j).toNat → I i s → OW (body (.int (j + (i : Int))) s) { nx := I (i + 1), rt := q.rt, bk := q.nx, ct := I (i + 1) }) (hd : ∀ s, I (k - j).toNat s → q.nx s) : OW (forD (rngD j k) body s) q :=
  for_ind I h0 (fun i x s h hi => by
    obtain ⟨h1, rfl⟩ := rng_get h
    exact hs i s h1 hi) fun s h => hd s (by rw [rng_len] at h; exact h)
/-- a comprehension over a range -/
theorem lc_rng {turn : D → MSt → Res (Option D)} {Ql : List D → MSt → Prop} (I : Nat → List D → MSt → Prop) (h0 : I 0 [] s)
    (hs : ∀ i acc s, i < (k - j).toNat → I i acc s → ResW (turn (.int (j + (i : Int))) s) fun o s1 => match o with
      | some d => acc.length < sizeLine ∧ I (i + 1) (acc ++ [d]) s1
      | none => I (i + 1) acc s1) (hd : ∀ acc s, I (k - j).toNat acc s → Ql acc s) : ResW (lcD (rngD j k) turn [] s) Ql :=
  lc_ind I h0 (fun i x acc s h hi => by
    obtain ⟨h1, rfl⟩ := rng_get h
    exact hs i acc s h1 hi) fun acc s h => hd acc s (by rw [rng_len] at h; exact h)
theorem atI_all {α : Type} {xs : List α} {P : α → Prop} (h0 : 0 ≤ j) (h1 : j < xs.length) (h : ∀ x ∈ xs, P x) : ∃ x, L2.atI xs j = some x ∧ P x := by
  have hl : j.toNat < xs.length := by omega
  exact ⟨xs[j.toNat], atI_of h0 (List.getElem?_eq_getElem hl), h _ (List.getElem_mem hl)⟩
theorem abcd_at (h0 : 0 ≤ j) (h1 : j < 4) : L2.atI ("abcd" : Str).cps.toList j = some (97 + j.toNat) := by
  have z : j = 0 ∨ j = 1 ∨ j = 2 ∨ j = 3 := by omega
  rcases z with rfl | rfl | rfl | rfl <;> decide +kernel
theorem b_cat1 {c : Nat} (h0 : z.length + 1 ≤ sizeLine) (h : PD (.str (z ++ ⟨#[c]⟩))) : ∃ u, binD .Add (.str z) (.str ⟨#[c]⟩) s = some u ∧ PD u := b_cat h0 h
theorem x_abcd (h0 : 0 ≤ j) (h1 : j < 4) (h : PD (.str ⟨#[97 + j.toNat]⟩)) : ∃ u, ixD (.str "abcd") (.int j) s = some u ∧ PD u := by
  refine ⟨_, ?_, h⟩
  show (if ("abcd" : Str).length ≤ sizeLine then (L2.atI ("abcd" : Str).cps.toList j).map fun c => D.str ⟨#[c]⟩ else none) = _
  rw [if_pos (by decide), abcd_at h0 h1]
  rfl
section
variable {lk : Bool} {PW : List D → Bool × MSt → Prop}
theorem wv_tup (h : PW xs (false, s)) : ∃ ys, wview (.tup xs) s = some ys ∧ ∃ p, fixD lk (.tup xs) s = some p ∧ PW ys p := ⟨xs, rfl, (false, s), by cases lk <;> rfl, h⟩
theorem wv_lst (h : PW xs (false, s)) : ∃ ys, wview (.lst xs) s = some ys ∧ ∃ p, fixD lk (.lst xs) s = some p ∧ PW ys p := ⟨xs, rfl, (false, s), by cases lk <;> rfl, h⟩
theorem wv_nw (h : PW xs (false, s)) : ∃ ys, wview (.nw xs) s = some ys ∧ ∃ p, fixD lk (.nw xs) s = some p ∧ PW ys p := ⟨xs, rfl, (false, s), rfl, h⟩
theorem wv_str (h : PW (strD z) (false, s)) : ∃ ys, wview (.str z) s = some ys ∧ ∃ p, fixD lk (.str z) s = some p ∧ PW ys p := ⟨_, rfl, (false, s), by cases lk <;> rfl, h⟩
theorem sv_tup (h : PW xs (false, s)) : ∃ ys, sview (.tup xs) s = some ys ∧ ∃ p, fixD lk (.tup xs) s = some p ∧ PW ys p := ⟨xs, rfl, (false, s), by cases lk <;> rfl, h⟩
theorem sv_lst (h : PW xs (false, s)) : ∃ ys, sview (.lst xs) s = some ys ∧ ∃ p, fixD lk (.lst xs) s = some p ∧ PW ys p := ⟨xs, rfl, (false, s), by cases lk <;> rfl, h⟩
theorem sv_nw (h : PW xs (false, s)) : ∃ ys, sview (.nw xs) s = some ys ∧ ∃ p, fixD lk (.nw xs) s = some p ∧ PW ys p := ⟨xs, rfl, (false, s), rfl, h⟩
theorem ownv {X : Option (List D)} (hx : sl[i]? = some (some (.own xs))) : wview (.sl i) ⟨sl, hp⟩ = some xs ∧ sview (.sl i) ⟨sl, hp⟩ = some xs ∧ lockD (.sl i) ⟨sl, hp⟩ = (⟨sl.set i (some (.lk xs)), hp⟩, true) ∧ frz (.sl i) ⟨sl, hp⟩ = some (.lst xs, ⟨sl.set i (some (.val (.lst xs))), hp⟩) := by
  have e : getS ⟨sl, hp⟩ i = some (.own xs) := by
    show (sl[i]?).join = _
    rw [hx]
    rfl
  refine ⟨?_, ?_, ?_, ?_⟩
  · show (getS ⟨sl, hp⟩ i).bind svList = _
    rw [e]
    rfl
  · show (getS ⟨sl, hp⟩ i).bind svList = _
    rw [e]
    rfl
  · show (match getS ⟨sl, hp⟩ i with
      | some (.own xs) => ((⟨sl, hp⟩ : MSt).setS i (some (.lk xs)), true)
      | _ => (⟨sl, hp⟩, false)) = _
    rw [e]
    rfl
  · show (match getS ⟨sl, hp⟩ i with
      | some (.own xs) => some (D.lst xs, (⟨sl, hp⟩ : MSt).setS i (some (.val (.lst xs))))
      | some (.val x) => some (x, ⟨sl, hp⟩)
      | _ => none) = _
    rw [e]
    rfl
theorem wv_lock {sl' : List (Option SV)} (hx : sl[i]? = some (some (.own xs))) (h1 : sl.set i (some (.lk xs)) = sl') (h : PW xs (true, ⟨sl', hp⟩)) : ∃ ys, wview (.sl i) ⟨sl, hp⟩ = some ys ∧ ∃ p, fixD true (.sl i) ⟨sl, hp⟩ = some p ∧ PW ys p := by
  subst h1
  obtain ⟨e1, e2, e3, e4⟩ := ownv (hp := hp) (X := none) hx
  refine ⟨xs, e1, (true, ⟨sl.set i (some (.lk xs)), hp⟩), ?_, h⟩
  show some ((lockD (.sl i) ⟨sl, hp⟩).2, (lockD (.sl i) ⟨sl, hp⟩).1) = _
  rw [e3]
theorem sv_lock {sl' : List (Option SV)} (hx : sl[i]? = some (some (.own xs))) (h1 : sl.set i (some (.lk xs)) = sl') (h : PW xs (true, ⟨sl', hp⟩)) : ∃ ys, sview (.sl i) ⟨sl, hp⟩ = some ys ∧ ∃ p, fixD true (.sl i) ⟨sl, hp⟩ = some p ∧ PW ys p := by
  subst h1
  obtain ⟨e1, e2, e3, e4⟩ := ownv (hp := hp) (X := none) hx
  refine ⟨xs, e2, (true, ⟨sl.set i (some (.lk xs)), hp⟩), ?_, h⟩
  show some ((lockD (.sl i) ⟨sl, hp⟩).2, (lockD (.sl i) ⟨sl, hp⟩).1) = _
  rw [e3]
theorem wv_frz {sl' : List (Option SV)} (hx : sl[i]? = some (some (.own xs))) (h1 : sl.set i (some (.val (.lst xs))) = sl') (h : PW xs (false, ⟨sl', hp⟩)) : ∃ ys, wview (.sl i) ⟨sl, hp⟩ = some ys ∧ ∃ p, fixD false (.sl i) ⟨sl, hp⟩ = some p ∧ PW ys p := by
  subst h1
  obtain ⟨e1, e2, e3, e4⟩ := ownv (hp := hp) (X := none) hx
  refine ⟨xs, e1, (false, ⟨sl.set i (some (.val (.lst xs))), hp⟩), ?_, h⟩
  show (frz (.sl i) ⟨sl, hp⟩).map _ = _
  rw [e4]
  rfl
theorem unlock_own {sl' : List (Option SV)} (hx : sl[i]? = some (some (.lk xs))) (h1 : sl.set i (some (.own xs)) = sl') : unlockD (.sl i) ⟨sl, hp⟩ = ⟨sl', hp⟩ := by
  subst h1
  have e : getS ⟨sl, hp⟩ i = some (.lk xs) := by
    show (sl[i]?).join = _
    rw [hx]
    rfl
  show (match getS ⟨sl, hp⟩ i with
    | some (.lk xs) => (⟨sl, hp⟩ : MSt).setS i (some (.own xs))
    | _ => ⟨sl, hp⟩) = _
  rw [e]
  rfl
end
theorem lk_free {x : D} {vs : List Nat} {X : Prop} (h1 : lkFree x vs = true) (h : X) : lkFree x vs = true ∧ X := ⟨h1, h⟩
theorem enum_ix : ∀ (ys : List D) (k i : Nat), (enumD k ys)[i]? = (ys[i]?).map fun d => D.tup [.int ((k + i : Nat) : Int), d]
  | [], k, i => by simp [enumD]
  | y :: ys, k, 0 => by simp [enumD]
  | y :: ys, k, i + 1 => by
    have ih := enum_ix ys (k + 1) i
    simp only [enumD, List.getElem?_cons_succ]
    rw [ih]
    have e : k + 1 + i = k + (i + 1) := by omega
    rw [e]
theorem enum_len : ∀ (ys : List D) (k : Nat), (enumD k ys).length = ys.length
  | [], k => rfl
  | y :: ys, k => by simp [enumD, enum_len ys]
theorem enum_get {ys : List D} {i : Nat} {x : D} (h : (enumD 0 ys)[i]? = some x) : ∃ y, ys[i]? = some y ∧ x = .tup [.int (i : Int), y] := by
  rw [enum_ix] at h
  cases q : ys[i]? with
  | none => rw [q] at h; cases h
  | some y =>
    rw [q] at h
    cases h
    exact ⟨y, rfl, by rw [Nat.zero_add]⟩
/-! the end -/
theorem gc_len {d : D} (h : hp.length = n) : gc n d hp = hp := by
  unfold gc
  split
  · rw [← h, List.take_length]
  · rfl
theorem fin_rt {Q : D → List HOb → Prop} {d : D} (hd : d.sol = true) (hl : s.hp.length = n) (h : Q d s.hp) : CW (finC n (.rt d s)) Q := by
  have e : finC n (.rt d s) = .ok d (gc n d s.hp) := by
    cases d with
    | nw xs => cases hd
    | sl i => cases hd
    | fl n f => cases hd
    | _ => rfl
  rw [e, gc_len hl]
  exact h
theorem fin_nw {Q : D → List HOb → Prop} (hl : s.hp.length = n) (h : Q (.nw xs) s.hp) : CW (finC n (.rt (.nw xs) s)) Q := by
  show Q _ (gc n _ _)
  rw [gc_len hl]
  exact h
theorem fin_own {Q : D → List HOb → Prop} (hx : sl[i]? = some (some (.own xs))) (hl : hp.length = n) (h : Q (.nw xs) hp) : CW (finC n (.rt (.sl i) ⟨sl, hp⟩)) Q := by
  have e : finC n (.rt (.sl i) ⟨sl, hp⟩) = .ok (.nw xs) (gc n (.nw xs) hp) := by
    show (match (sl[i]?).join with
      | some (.own xs) => CRes.ok (.nw xs) (gc n (.nw xs) hp)
      | some (.val x) => .ok x (gc n x hp)
      | _ => .stuck) = _
    rw [hx]
    rfl
  rw [e, gc_len hl]
  exact h
/-! the box that all draw from -/
abbrev bx (ds : List Int) (at' : Int) : HOb := .box [.lst (ds.map D.int), .int at']
theorem x_bx0 {ds : List Int} {at' : Int} (h : PD (.lst (ds.map D.int))) : ∃ z, ixD (.ref 0) (.int 0) ⟨sl, [bx ds at']⟩ = some z ∧ PD z := ⟨_, rfl, h⟩
theorem x_bx1 {ds : List Int} {at' : Int} (h : PD (.int at')) : ∃ z, ixD (.ref 0) (.int 1) ⟨sl, [bx ds at']⟩ = some z ∧ PD z := ⟨_, rfl, h⟩
theorem g_bx {ds : List Int} {at' : Int} {X : MSt → Prop} (h : X ⟨sl, [bx ds k]⟩) : ∃ s4, setIx (.ref 0) (.int 1) (.int k) ⟨sl, [bx ds at']⟩ = some s4 ∧ X s4 := ⟨_, rfl, h⟩
theorem x_ints {ns : List Int} (h0 : 0 ≤ j) (h1 : ns[j.toNat]? = some k) (h : PD (.int k)) : ∃ z, ixD (.lst (ns.map D.int)) (.int j) s = some z ∧ PD z := x_lst (atI_of h0 (by simp [h1])) h
end
end MP
end
section
set_option maxRecDepth 100000
set_option maxHeartbeats 1000000
set_option autoImplicit false
/-! MQd: values that repr writes in a short text. -/
namespace MP
open PySem
/-- pure, at most k deep, at most w heavy -/
structure Nd (k w : Nat) (d : D) : Prop where
  pure : d.pure = true
  can : d.py.canLay0 = true
  dep : d.py.depth ≤ k
  wei : d.py.weight ≤ w
  sho : d.py.intsShort 13 = true
  vis : d.py.showable = true
structure Nds (k w : Nat) (ds : List D) : Prop where
  pure : pures ds = true
  can : PyData.canLayAll0 (pys ds) = true
  dep : PyData.depthAll (pys ds) ≤ k
  wei : PyData.weightAll (pys ds) ≤ ds.length * (w + 1)
  sho : PyData.intsShortAll 13 (pys ds) = true
  vis : PyData.showableAll (pys ds) = true
theorem Nd.mono {k w k' w' : Nat} {d : D} (h : Nd k w d) (h1 : k ≤ k') (h2 : w ≤ w') : Nd k' w' d := ⟨h.pure, h.can, Nat.le_trans h.dep h1, Nat.le_trans h.wei h2, h.sho, h.vis⟩
theorem nds_of {k w : Nat} : ∀ {ds : List D}, (∀ d ∈ ds, Nd k w d) → Nds k w ds
  | [], _ => ⟨rfl, rfl, Nat.zero_le _, Nat.zero_le _, rfl, rfl⟩
  | d :: ds, h => by
    have h1 := h d (by simp)
    have h2 := nds_of (ds := ds) fun x hx => h x (by simp [hx])
    refine ⟨?_, ?_, ?_, ?_, ?_, ?_⟩
    · show (d.pure && pures ds) = true
      rw [h1.pure, h2.pure]; rfl
    · show (PyData.canLay0 d.py && PyData.canLayAll0 (pys ds)) = true
      rw [h1.can, h2.can]; rfl
    · show max (PyData.depth d.py) (PyData.depthAll (pys ds)) ≤ k
      exact Nat.max_le.mpr ⟨h1.dep, h2.dep⟩
    · show PyData.weight d.py + 1 + PyData.weightAll (pys ds) ≤ (ds.length + 1) * (w + 1)
      have a := h1.wei
      have b := h2.wei
      rw [Nat.add_mul, Nat.one_mul]
      omega
    · show (PyData.intsShort 13 d.py && PyData.intsShortAll 13 (pys ds)) = true
      rw [h1.sho, h2.sho]; rfl
    · show (PyData.showable d.py && PyData.showableAll (pys ds)) = true
      rw [h1.vis, h2.vis]; rfl
theorem nd_tup {k w n : Nat} {ds : List D} (hn : ds.length ≤ n) (h : ∀ d ∈ ds, Nd k w d) : Nd (k + 1) (n * (w + 1)) (.tup ds) := by
  have z := nds_of h
  exact ⟨z.pure, z.can, Nat.succ_le_succ z.dep, Nat.le_trans z.wei (Nat.mul_le_mul_right _ hn), z.sho, z.vis⟩
theorem nd_lst {k w n : Nat} {ds : List D} (hn : ds.length ≤ n) (h : ∀ d ∈ ds, Nd k w d) : Nd (k + 1) (n * (w + 1)) (.lst ds) := by
  have z := nds_of h
  exact ⟨z.pure, z.can, Nat.succ_le_succ z.dep, Nat.le_trans z.wei (Nat.mul_le_mul_right _ hn), z.sho, z.vis⟩
theorem nd_non {k w : Nat} : Nd k w .non := ⟨rfl, rfl, Nat.zero_le _, Nat.zero_le _, rfl, rfl⟩
theorem nd_bl {k w : Nat} {b : Bool} : Nd k w (.bl b) := ⟨rfl, rfl, Nat.zero_le _, Nat.zero_le _, rfl, rfl⟩
theorem log_lt {n : Nat} (h : n < 10 ^ 12) : n.log2 < 40 := by
  by_cases z : n = 0
  · subst z; decide
  · exact (Nat.log2_lt z).mpr (Nat.lt_trans h (by decide))
theorem nd_int {k w : Nat} {i : Int} (h : i.natAbs < 10 ^ 12) (hw : 41 ≤ w) : Nd k w (.int i) := by
  have l := log_lt h
  refine ⟨rfl, rfl, Nat.zero_le _, ?_, ?_, ?_⟩
  · show (if i == 0 then 0 else i.natAbs.log2 + 1) ≤ w
    split <;> omega
  · show decide _ = true
    exact decide_eq_true (PyData.shown_int_le h)
  · show decide _ = true
    exact decide_eq_true (by omega)
theorem nd_str {k w : Nat} {z : Str} (h : PyData.strOk z = true) (hw : z.cps.size ≤ w) : Nd k w (.str z) := ⟨rfl, h, Nat.zero_le _, hw, rfl, rfl⟩
theorem nd_ints {k n : Nat} {ns : List Int} (hn : ns.length ≤ n) (h : ∀ i ∈ ns, i.natAbs < 10 ^ 12) : Nd (k + 1) (n * 42) (.tup (ns.map D.int)) :=
  nd_tup (w := 41) (by rw [List.length_map]; exact hn) fun d hd => by
    obtain ⟨i, hi, rfl⟩ := List.mem_map.mp hd
    exact nd_int (h i hi) (Nat.le_refl _)
theorem Nd.okR {k w : Nat} {d : D} (h : Nd k w d) (h1 : k ≤ 64) (h2 : w ≤ 1048576) : okR d.py = true := by
  show ((PyData.canLay0 d.py && decide (PyData.depth d.py ≤ 64) && decide (PyData.weight d.py ≤ 2 ^ 20)) && PyData.intsShort 13 d.py && PyData.showable d.py) = true
  rw [h.can, h.sho, h.vis, decide_eq_true (Nat.le_trans h.dep h1), decide_eq_true (show PyData.weight d.py ≤ 2 ^ 20 from Nat.le_trans h.wei h2)]
  rfl
theorem bi_repT {PD : D → Prop} {s : MSt} {k w : Nat} {xs : List D} (h : Nd k w (.tup xs)) (h1 : k ≤ 64) (h2 : w ≤ 1048576) (hp : PD (.str (D.tup xs).py.shown)) : ∃ z, biD .repr [.tup xs] s = some z ∧ PD z := by
  refine ⟨_, ?_, hp⟩
  show (Option.bind (if (D.tup xs).pure then some (D.tup xs).py else none) fun p => if MP.okR p then some (D.str p.shown) else none) = _
  rw [if_pos h.pure]
  show (if MP.okR (D.tup xs).py then _ else _) = _
  rw [if_pos (h.okR h1 h2)]
theorem fin_bl {n : Nat} {b : Bool} {s : MSt} {Q : D → List HOb → Prop} (h : ∀ hp, Q (.bl b) hp) : CW (finC n (.rt (.bl b) s)) Q := h _
end MP
end
section
set_option maxRecDepth 100000
set_option maxHeartbeats 1000000
set_option autoImplicit false
namespace L23
open PySem MP
abbrev i_check : Nat := 0
abbrev i_rank_of : Nat := 1
abbrev i_check_ends : Nat := 2
abbrev i_lent : Nat := 3
abbrev i_check_leases : Nat := 4
abbrev i_lease_right : Nat := 5
abbrev i_under : Nat := 6
abbrev i_law_cell : Nat := 7
abbrev i_law_digits : Nat := 8
abbrev i_law_draw : Nat := 9
abbrev i_law_same : Nat := 10
abbrev i_law_basin : Nat := 11
abbrev i_law_demands : Nat := 12
abbrev i_law_more_rights : Nat := 13
abbrev i_law_under : Nat := 14
abbrev i_law_leases : Nat := 15
abbrev i_law : Nat := 16
def b_check : Ss := (.cons (.kill [1]) (.cons (.ite (.not (.of (.var 0))) (.cons (.kill [0]) (.cons .never .nil)) (.cons (.kill [0]) .nil)) .nil))
def f_check : Fn := ⟨2, 2, b_check⟩
def b_rank_of : Ss := (.cons (.forr (.tup (.cons (.name 2) (.cons (.name 3) .nil))) (.enum (.var 0)) (.cons (.ite (.of (.cmp .Eq (.ix (.var 3) (.int 0)) (.var 1))) (.cons (.kill [1, 3]) (.cons (.ret (.var 2)) .nil)) (.cons (.kill [2, 3]) .nil)) .nil)) (.cons (.kill [0, 1]) (.cons .never .nil)))
def f_rank_of : Fn := ⟨2, 4, b_rank_of⟩
def b_check_ends : Ss := (.cons (.asg (.name 5) (.call i_rank_of (.cons (.var 1) (.cons (.var 2) .nil)))) (.cons (.kill [2]) (.cons (.expr (.call i_check (.cons (.cmp .NotEq (.call i_rank_of (.cons (.var 1) (.cons (.var 3) .nil))) (.var 5)) (.cons (.str "same right") .nil)))) (.cons (.kill [1, 3, 5]) (.cons (.expr (.call i_check (.cons (.chain .LtE .Lt (.int 0) (.var 4) (.ix (.var 0) (.int 0))) (.cons (.str "no such month") .nil)))) (.cons (.kill [0, 4]) .nil))))))
def f_check_ends : Fn := ⟨5, 6, b_check_ends⟩
def b_lent : Ss := (.cons (.ret (.bi .sum (.cons (.lc (.ix (.var 3) (.int 3)) (.name 3) (.of (.var 0)) (.cons (.bool true (.cons (.of (.cmp .Eq (.ix (.var 3) (.int 0)) (.var 1))) (.cons (.of (.cmp .Eq (.ix (.var 3) (.int 2)) (.var 2))) .nil))) .nil) [3]) .nil))) .nil)
def f_lent : Fn := ⟨3, 4, b_lent⟩
def b_check_leases : Ss := (.cons (.forr (.tup (.cons (.name 3) (.cons (.name 4) .nil))) (.enum (.var 2)) (.cons (.asg (.tup (.cons (.name 6) (.cons (.name 7) (.cons (.name 8) (.cons (.name 9) .nil))))) (.var 4)) (.cons (.kill [4]) (.cons (.expr (.call i_check_ends (.cons (.var 0) (.cons (.var 1) (.cons (.var 6) (.cons (.var 7) (.cons (.var 8) .nil))))))) (.cons (.kill [7]) (.cons (.expr (.call i_check (.cons (.chain .LtE .LtE (.int 1) (.var 9) (.glob "AMOUNT_MOST" (.int 99))) (.cons (.str "no such amount") .nil)))) (.cons (.kill [9]) (.cons (.asg (.name 5) (.ix (.ix (.ix (.var 1) (.call i_rank_of (.cons (.var 1) (.cons (.var 6) .nil)))) (.int 2)) (.var 8))) (.cons (.expr (.call i_check (.cons (.cmp .LtE (.call i_lent (.cons (.slc (.var 2) .absent (.of (.bin .Add (.var 3) (.int 1)))) (.cons (.var 6) (.cons (.var 8) .nil)))) (.var 5)) (.cons (.str "more than it has") .nil)))) (.cons (.kill [3, 5, 6, 8]) .nil)))))))))) (.cons (.kill [0, 1]) (.cons (.expr (.call i_check (.cons (.cmp .LtE (.bi .len (.cons (.var 2) .nil)) (.glob "LEASES_MOST" (.int 4))) (.cons (.str "too many leases") .nil)))) (.cons (.kill [2]) .nil))))
def f_check_leases : Fn := ⟨3, 10, b_check_leases⟩
def b_lease_right : Ss := (.cons (.asg (.tup (.cons (.name 4) (.cons (.name 5) (.cons (.name 6) (.cons (.name 7) .nil))))) (.ix (.var 2) (.var 3))) (.cons (.kill [2, 4]) (.cons (.asg (.name 8) (.bin .Mult (.lst (.cons (.int 0) .nil)) (.ix (.var 0) (.int 0)))) (.cons (.kill [0]) (.cons (.asg (.ix (.var 8) (.var 6)) (.var 7)) (.cons (.kill [6, 7]) (.cons (.ret (.tup (.cons (.bin .Add (.str "lease") (.ix (.glob "LETTERS" (.str "abcdefghijklmnopqrstuvwxyz")) (.var 3))) (.cons (.ix (.ix (.var 1) (.call i_rank_of (.cons (.var 1) (.cons (.var 5) .nil)))) (.int 1)) (.cons (.bi .tuple (.cons (.var 8) .nil)) .nil))))) .nil)))))))
def f_lease_right : Fn := ⟨4, 9, b_lease_right⟩
def b_under : Ss := (.cons (.expr (.call i_check_leases (.cons (.var 0) (.cons (.var 1) (.cons (.var 2) .nil))))) (.cons (.asg (.name 3) (.lst .nil)) (.cons (.forr (.tup (.cons (.name 4) (.cons (.name 5) (.cons (.name 6) .nil)))) (.of (.var 1)) (.cons (.asg (.name 7) (.lc (.bin .Sub (.var 11) (.call i_lent (.cons (.var 2) (.cons (.var 4) (.cons (.var 10) .nil))))) (.tup (.cons (.name 10) (.cons (.name 11) .nil))) (.enum (.var 6)) .nil [10, 11])) (.cons (.kill [6]) (.cons (.expr (.bm .append (.var 3) (.cons (.tup (.cons (.var 4) (.cons (.var 5) (.cons (.bi .tuple (.cons (.var 7) .nil)) .nil)))) .nil))) (.cons (.kill [5, 7]) (.cons (.forr (.tup (.cons (.name 8) (.cons (.name 9) .nil))) (.enum (.var 2)) (.cons (.ite (.of (.cmp .Eq (.ix (.var 9) (.int 0)) (.var 4))) (.cons (.kill [9]) (.cons (.expr (.bm .append (.var 3) (.cons (.call i_lease_right (.cons (.var 0) (.cons (.var 1) (.cons (.var 2) (.cons (.var 8) .nil))))) .nil))) (.cons (.kill [8]) .nil))) (.cons (.kill [8, 9]) .nil)) .nil)) (.cons (.kill [4]) .nil))))))) (.cons (.kill [0, 1, 2]) (.cons (.ret (.bi .tuple (.cons (.var 3) .nil))) .nil)))))
def f_under : Fn := ⟨3, 12, b_under⟩
def b_law_cell : Ss := (.cons (.ite (.of (.cmp .Lt (.var 1) (.bi .len (.cons (.var 0) .nil)))) (.cons (.ret (.ix (.var 0) (.var 1))) .nil) (.cons (.kill [0, 1]) .nil)) (.cons (.ret (.int 0)) .nil))
def f_law_cell : Fn := ⟨2, 2, b_law_cell⟩
def b_law_digits : Ss := (.cons (.asg (.name 3) (.lst .nil)) (.cons (.forr (.name 4) (.rng2 (.var 1) (.var 2)) (.cons (.asg (.name 5) (.call i_law_cell (.cons (.var 0) (.cons (.var 4) .nil)))) (.cons (.ite (.of (.cmp .Lt (.var 5) (.int 0))) (.cons (.asg (.name 5) (.bin .Sub (.int 1) (.bin .Mult (.int 2) (.var 5)))) .nil) .nil) (.cons (.ite (.of (.cmp .GtE (.var 5) (.bin .Pow (.int 10) (.int 18)))) (.cons (.kill [4]) (.cons (.forr (.name 6) (.rng (.int 60)) (.cons (.kill [6]) (.cons (.ite (.of (.cmp .Gt (.var 5) (.int 0))) (.cons (.expr (.bm .append (.var 3) (.cons (.bin .Mod (.bi .int (.cons (.var 5) .nil)) (.int 1000)) .nil))) (.cons (.asg (.name 5) (.bin .FloorDiv (.var 5) (.int 1000))) .nil)) .nil) .nil))) (.cons (.kill [5]) .nil))) (.cons (.asg (.name 7) (.bin .Mod (.bi .int (.cons (.bin .Add (.bin .Add (.bin .Mult (.var 5) (.int 48271)) (.bin .Mult (.var 4) (.int 69621))) (.int 11)) .nil)) (.int 2147483647))) (.cons (.kill [4, 5]) (.cons (.forr (.name 6) (.rng (.int 12)) (.cons (.asg (.name 7) (.bin .Mod (.bi .int (.cons (.bin .Add (.bin .Add (.bin .Mult (.var 7) (.int 16807)) (.bin .Mult (.int 7) (.var 6))) (.int 1)) .nil)) (.int 2147483647))) (.cons (.kill [6]) (.cons (.expr (.bm .append (.var 3) (.cons (.bin .Mod (.bi .int (.cons (.bin .FloorDiv (.var 7) (.int 997)) .nil)) (.int 1000)) .nil))) .nil)))) (.cons (.kill [7]) .nil))))) .nil)))) (.cons (.kill [0, 1, 2]) (.cons (.ret (.var 3)) .nil))))
def f_law_digits : Fn := ⟨3, 8, b_law_digits⟩
def b_law_draw : Ss := (.cons (.asg (.name 2) (.ix (.var 0) (.int 1))) (.cons (.asg (.ix (.var 0) (.int 1)) (.bin .Add (.var 2) (.int 1))) (.cons (.ite (.of (.cmp .Lt (.var 2) (.bi .len (.cons (.ix (.var 0) (.int 0)) .nil)))) (.cons (.ret (.bin .Mod (.bi .int (.cons (.ix (.ix (.var 0) (.int 0)) (.var 2)) .nil)) (.var 1))) .nil) (.cons (.kill [0]) .nil)) (.cons (.ret (.bin .Mod (.bi .int (.cons (.bin .Add (.bin .Mult (.var 2) (.int 7)) (.int 3)) .nil)) (.var 1))) .nil))))
def f_law_draw : Fn := ⟨2, 3, b_law_draw⟩
def b_law_same : Ss := (.cons (.ret (.cmp .Eq (.bi .repr (.cons (.var 0) .nil)) (.bi .repr (.cons (.var 1) .nil)))) .nil)
def f_law_same : Fn := ⟨2, 2, b_law_same⟩
def b_law_basin : Ss := (.cons (.asg (.name 1) (.bin .Add (.int 1) (.call i_law_draw (.cons (.var 0) (.cons (.int 3) .nil))))) (.cons (.asg (.name 2) (.ix (.lst (.cons (.bin .Add (.int 1) (.call i_law_draw (.cons (.var 0) (.cons (.int 4) .nil)))) (.cons (.bin .Add (.int 1) (.call i_law_draw (.cons (.var 0) (.cons (.int 3) .nil)))) (.cons (.bin .Add (.int 1) (.call i_law_draw (.cons (.var 0) (.cons (.int 2) .nil)))) .nil)))) (.bin .Sub (.bi .int (.cons (.var 1) .nil)) (.int 1)))) (.cons (.asg (.name 3) (.lst .nil)) (.cons (.forr (.name 4) (.rng (.var 1)) (.cons (.asg (.name 5) .non) (.cons (.asg (.name 6) (.int 0)) (.cons (.asg (.name 7) .non) (.cons (.ite (.of (.cmp .Lt (.var 4) (.bin .Sub (.var 1) (.int 1)))) (.cons (.kill [5, 6, 7]) (.cons (.asg (.name 5) (.bin .Add (.str "s") (.ix (.str "abcd") (.bi .int (.cons (.bin .Add (.bin .Add (.var 4) (.int 1)) (.call i_law_draw (.cons (.var 0) (.cons (.bin .Sub (.bin .Sub (.var 1) (.var 4)) (.int 1)) .nil)))) .nil))))) (.cons (.asg (.name 6) (.ix (.lst (.cons (.int 0) (.cons (.int 0) (.cons (.int 1) (.cons (.int 2) .nil))))) (.call i_law_draw (.cons (.var 0) (.cons (.int 4) .nil))))) (.cons (.asg (.name 7) (.ix (.lst (.cons .non (.cons .non (.cons (.call i_law_draw (.cons (.var 0) (.cons (.int 6) .nil))) .nil)))) (.call i_law_draw (.cons (.var 0) (.cons (.int 3) .nil))))) .nil)))) .nil) (.cons (.asg (.name 8) (.ix (.lst (.cons (.int 0) (.cons (.call i_law_draw (.cons (.var 0) (.cons (.int 5) .nil))) (.cons (.call i_law_draw (.cons (.var 0) (.cons (.int 9) .nil))) .nil)))) (.call i_law_draw (.cons (.var 0) (.cons (.int 3) .nil))))) (.cons (.asg (.name 9) (.bin .Mult (.call i_law_draw (.cons (.var 0) (.cons (.bin .Add (.var 8) (.int 1)) .nil))) (.call i_law_draw (.cons (.var 0) (.cons (.int 2) .nil))))) (.cons (.expr (.bm .append (.var 3) (.cons (.tup (.cons (.bin .Add (.str "s") (.ix (.str "abcd") (.bi .int (.cons (.var 4) .nil)))) (.cons (.var 5) (.cons (.var 6) (.cons (.var 7) (.cons (.var 8) (.cons (.var 9) (.cons (.bi .tuple (.cons (.lc (.call i_law_draw (.cons (.var 0) (.cons (.int 8) .nil))) (.name 10) (.rng (.var 2)) .nil [10]) .nil)) .nil)))))))) .nil))) (.cons (.kill [4, 5, 6, 7, 8, 9]) .nil))))))))) (.cons (.kill [0, 1]) (.cons (.ret (.tup (.cons (.var 2) (.cons (.bi .tuple (.cons (.var 3) .nil)) .nil)))) .nil))))))
def f_law_basin : Fn := ⟨1, 11, b_law_basin⟩
def b_law_demands : Ss := (.cons (.ret (.bi .tuple (.cons (.lc (.call i_law_draw (.cons (.var 0) (.cons (.int 7) .nil))) (.name 2) (.rng (.var 1)) .nil [2]) .nil))) .nil)
def f_law_demands : Fn := ⟨2, 3, b_law_demands⟩
def b_law_more_rights : Ss := (.cons (.asg (.name 2) (.lc (.ix (.var 3) (.int 0)) (.name 3) (.of (.ix (.var 1) (.int 1))) .nil [3])) (.cons (.asg (.name 4) (.lst .nil)) (.cons (.forr (.name 5) (.rng (.bin .Add (.int 2) (.call i_law_draw (.cons (.var 0) (.cons (.int 3) .nil))))) (.cons (.expr (.bm .append (.var 4) (.cons (.tup (.cons (.bin .Add (.str "r") (.ix (.str "abcd") (.bi .int (.cons (.var 5) .nil)))) (.cons (.ix (.var 2) (.bin .Mod (.bi .int (.cons (.call i_law_draw (.cons (.var 0) (.cons (.int 90) .nil))) .nil)) (.bi .len (.cons (.var 2) .nil)))) (.cons (.call i_law_demands (.cons (.var 0) (.cons (.ix (.var 1) (.int 0)) .nil))) .nil)))) .nil))) (.cons (.kill [5]) .nil))) (.cons (.kill [0, 1, 2]) (.cons (.ret (.bi .tuple (.cons (.var 4) .nil))) .nil)))))
def f_law_more_rights : Fn := ⟨2, 6, b_law_more_rights⟩
def b_law_under : Ss := (.cons (.asg (.name 2) (.lst .nil)) (.cons (.forr (.tup (.cons (.name 3) (.cons (.name 4) (.cons (.name 5) .nil)))) (.of (.var 0)) (.cons (.asg (.name 6) (.bi .list (.cons (.var 5) .nil))) (.cons (.asg (.name 7) (.lst .nil)) (.cons (.forr (.name 8) (.rng (.bi .len (.cons (.var 1) .nil))) (.cons (.asg (.tup (.cons (.name 9) (.cons (.name 10) (.cons (.name 11) (.cons (.name 12) .nil))))) (.ix (.var 1) (.var 8))) (.cons (.ite (.of (.cmp .Eq (.var 9) (.var 3))) (.cons (.kill [9]) (.cons (.asg (.ix (.var 6) (.var 11)) (.bin .Sub (.ix (.var 6) (.var 11)) (.var 12))) (.cons (.asg (.name 13) (.bin .Mult (.lst (.cons (.int 0) .nil)) (.bi .len (.cons (.var 5) .nil)))) (.cons (.asg (.ix (.var 13) (.var 11)) (.var 12)) (.cons (.kill [11, 12]) (.cons (.asg (.name 14) (.ix (.lc (.ix (.var 15) (.int 1)) (.name 15) (.of (.var 0)) (.cons (.of (.cmp .Eq (.ix (.var 15) (.int 0)) (.var 10))) .nil) [15]) (.int 0))) (.cons (.kill [10]) (.cons (.expr (.bm .append (.var 7) (.cons (.tup (.cons (.bin .Add (.str "lease") (.ix (.str "abcd") (.bi .int (.cons (.var 8) .nil)))) (.cons (.var 14) (.cons (.bi .tuple (.cons (.var 13) .nil)) .nil)))) .nil))) (.cons (.kill [8, 13, 14]) .nil))))))))) (.cons (.kill [8, 9, 10, 11, 12]) .nil)) .nil))) (.cons (.kill [5]) (.cons (.asg (.name 2) (.bin .Add (.bin .Add (.var 2) (.lst (.cons (.tup (.cons (.var 3) (.cons (.var 4) (.cons (.bi .tuple (.cons (.var 6) .nil)) .nil)))) .nil))) (.var 7))) (.cons (.kill [3, 4, 6, 7]) .nil))))))) (.cons (.kill [0, 1]) (.cons (.ret (.bi .tuple (.cons (.var 2) .nil))) .nil))))
def f_law_under : Fn := ⟨2, 16, b_law_under⟩
def b_law_leases : Ss := (.cons (.asg (.name 4) (.lst .nil)) (.cons (.forr (.name 5) (.rng (.call i_law_draw (.cons (.var 0) (.cons (.bin .Add (.var 3) (.int 1)) .nil)))) (.cons (.kill [5]) (.cons (.asg (.name 6) (.ix (.var 2) (.bin .Mod (.bi .int (.cons (.call i_law_draw (.cons (.var 0) (.cons (.int 90) .nil))) .nil)) (.bi .len (.cons (.var 2) .nil))))) (.cons (.asg (.name 7) (.ix (.var 2) (.bin .Mod (.bi .int (.cons (.call i_law_draw (.cons (.var 0) (.cons (.int 90) .nil))) .nil)) (.bi .len (.cons (.var 2) .nil))))) (.cons (.asg (.name 8) (.bin .Mod (.bi .int (.cons (.call i_law_draw (.cons (.var 0) (.cons (.int 90) .nil))) .nil)) (.ix (.var 1) (.int 0)))) (.cons (.asg (.name 9) (.bin .Sub (.ix (.ix (.var 6) (.int 2)) (.var 8)) (.bi .sum (.cons (.lc (.ix (.var 10) (.int 3)) (.name 10) (.of (.var 4)) (.cons (.bool true (.cons (.of (.cmp .Eq (.ix (.var 10) (.int 0)) (.ix (.var 6) (.int 0)))) (.cons (.of (.cmp .Eq (.ix (.var 10) (.int 2)) (.var 8))) .nil))) .nil) [10]) .nil)))) (.cons (.ite (.bool true (.cons (.of (.cmp .NotEq (.ix (.var 6) (.int 0)) (.ix (.var 7) (.int 0)))) (.cons (.of (.cmp .Gt (.var 9) (.int 0))) .nil))) (.cons (.expr (.bm .append (.var 4) (.cons (.tup (.cons (.ix (.var 6) (.int 0)) (.cons (.ix (.var 7) (.int 0)) (.cons (.var 8) (.cons (.bin .Add (.int 1) (.bin .Mod (.bi .int (.cons (.call i_law_draw (.cons (.var 0) (.cons (.int 90) .nil))) .nil)) (.var 9))) .nil))))) .nil))) (.cons (.kill [6, 7, 8, 9]) .nil)) (.cons (.kill [6, 7, 8, 9]) .nil)) .nil))))))) (.cons (.kill [0, 1, 2, 3]) (.cons (.ret (.bi .tuple (.cons (.var 4) .nil))) .nil))))
def f_law_leases : Fn := ⟨4, 11, b_law_leases⟩
def b_law : Ss := (.cons (.asg (.name 1) (.box (.cons (.call i_law_digits (.cons (.var 0) (.cons (.int 0) (.cons (.int 60) .nil)))) (.cons (.int 0) .nil)))) (.cons (.kill [0]) (.cons (.asg (.name 2) (.call i_law_basin (.cons (.var 1) .nil))) (.cons (.asg (.name 3) (.call i_law_more_rights (.cons (.var 1) (.cons (.var 2) .nil)))) (.cons (.asg (.name 4) (.bi .repr (.cons (.var 3) .nil))) (.cons (.forr (.name 5) (.rng (.int 3)) (.cons (.kill [5]) (.cons (.asg (.name 6) (.call i_law_leases (.cons (.var 1) (.cons (.var 2) (.cons (.var 3) (.cons (.int 4) .nil)))))) (.cons (.ite (.bool false (.cons (.not (.of (.call i_law_same (.cons (.call i_under (.cons (.var 2) (.cons (.var 3) (.cons (.var 6) .nil)))) (.cons (.call i_law_under (.cons (.var 3) (.cons (.var 6) .nil))) .nil))))) (.cons (.of (.cmp .NotEq (.bi .repr (.cons (.var 3) .nil)) (.var 4))) .nil))) (.cons (.kill [1, 2, 3, 4, 6]) (.cons (.ret (.bl false)) .nil)) (.cons (.kill [6]) .nil)) .nil)))) (.cons (.kill [1, 4]) (.cons (.ret (.call i_law_same (.cons (.call i_under (.cons (.var 2) (.cons (.var 3) (.cons (.tup .nil) .nil)))) (.cons (.var 3) .nil)))) .nil))))))))
def f_law : Fn := ⟨1, 7, b_law⟩
def tab : Nat → Option Fn
  | 0 => some f_check
  | 1 => some f_rank_of
  | 2 => some f_check_ends
  | 3 => some f_lent
  | 4 => some f_check_leases
  | 5 => some f_lease_right
  | 6 => some f_under
  | 7 => some f_law_cell
  | 8 => some f_law_digits
  | 9 => some f_law_draw
  | 10 => some f_law_same
  | 11 => some f_law_basin
  | 12 => some f_law_demands
  | 13 => some f_law_more_rights
  | 14 => some f_law_under
  | 15 => some f_law_leases
  | 16 => some f_law
  | _ => none
theorem r_check {n : Nat} {a0 a1 : D} {hp : List HOb} {Q : D → List HOb → Prop} (h : OW (evSs (runF tab n) b_check ⟨[some (.val a0), some (.val a1)], hp⟩) { nx := fun s => Q .non (gc hp.length .non s.hp), rt := fun d s => CW (finC hp.length (.rt d s)) Q }) : CW (runF tab (n + 1) i_check [a0, a1] hp) Q := run_of (fn := f_check) rfl rfl h
theorem r_rank_of {n : Nat} {a0 a1 : D} {hp : List HOb} {Q : D → List HOb → Prop} (h : OW (evSs (runF tab n) b_rank_of ⟨[some (.val a0), some (.val a1), none, none], hp⟩) { nx := fun s => Q .non (gc hp.length .non s.hp), rt := fun d s => CW (finC hp.length (.rt d s)) Q }) : CW (runF tab (n + 1) i_rank_of [a0, a1] hp) Q := run_of (fn := f_rank_of) rfl rfl h
theorem r_check_ends {n : Nat} {a0 a1 a2 a3 a4 : D} {hp : List HOb} {Q : D → List HOb → Prop} (h : OW (evSs (runF tab n) b_check_ends ⟨[some (.val a0), some (.val a1), some (.val a2), some (.val a3), some (.val a4), none], hp⟩) { nx := fun s => Q .non (gc hp.length .non s.hp), rt := fun d s => CW (finC hp.length (.rt d s)) Q }) : CW (runF tab (n + 1) i_check_ends [a0, a1, a2, a3, a4] hp) Q := run_of (fn := f_check_ends) rfl rfl h
theorem r_lent {n : Nat} {a0 a1 a2 : D} {hp : List HOb} {Q : D → List HOb → Prop} (h : OW (evSs (runF tab n) b_lent ⟨[some (.val a0), some (.val a1), some (.val a2), none], hp⟩) { nx := fun s => Q .non (gc hp.length .non s.hp), rt := fun d s => CW (finC hp.length (.rt d s)) Q }) : CW (runF tab (n + 1) i_lent [a0, a1, a2] hp) Q := run_of (fn := f_lent) rfl rfl h
theorem r_check_leases {n : Nat} {a0 a1 a2 : D} {hp : List HOb} {Q : D → List HOb → Prop} (h : OW (evSs (runF tab n) b_check_leases ⟨[some (.val a0), some (.val a1), some (.val a2), none, none, none, none, none, none, none], hp⟩) { nx := fun s => Q .non (gc hp.length .non s.hp), rt := fun d s => CW (finC hp.length (.rt d s)) Q }) : CW (runF tab (n + 1) i_check_leases [a0, a1, a2] hp) Q := run_of (fn := f_check_leases) rfl rfl h
theorem r_lease_right {n : Nat} {a0 a1 a2 a3 : D} {hp : List HOb} {Q : D → List HOb → Prop} (h : OW (evSs (runF tab n) b_lease_right ⟨[some (.val a0), some (.val a1), some (.val a2), some (.val a3), none, none, none, none, none], hp⟩) { nx := fun s => Q .non (gc hp.length .non s.hp), rt := fun d s => CW (finC hp.length (.rt d s)) Q }) : CW (runF tab (n + 1) i_lease_right [a0, a1, a2, a3] hp) Q := run_of (fn := f_lease_right) rfl rfl h
theorem r_under {n : Nat} {a0 a1 a2 : D} {hp : List HOb} {Q : D → List HOb → Prop} (h : OW (evSs (runF tab n) b_under ⟨[some (.val a0), some (.val a1), some (.val a2), none, none, none, none, none, none, none, none, none], hp⟩) { nx := fun s => Q .non (gc hp.length .non s.hp), rt := fun d s => CW (finC hp.length (.rt d s)) Q }) : CW (runF tab (n + 1) i_under [a0, a1, a2] hp) Q := run_of (fn := f_under) rfl rfl h
theorem r_law_cell {n : Nat} {a0 a1 : D} {hp : List HOb} {Q : D → List HOb → Prop} (h : OW (evSs (runF tab n) b_law_cell ⟨[some (.val a0), some (.val a1)], hp⟩) { nx := fun s => Q .non (gc hp.length .non s.hp), rt := fun d s => CW (finC hp.length (.rt d s)) Q }) : CW (runF tab (n + 1) i_law_cell [a0, a1] hp) Q := run_of (fn := f_law_cell) rfl rfl h
theorem r_law_digits {n : Nat} {a0 a1 a2 : D} {hp : List HOb} {Q : D → List HOb → Prop} (h : OW (evSs (runF tab n) b_law_digits ⟨[some (.val a0), some (.val a1), some (.val a2), none, none, none, none, none], hp⟩) { nx := fun s => Q .non (gc hp.length .non s.hp), rt := fun d s => CW (finC hp.length (.rt d s)) Q }) : CW (runF tab (n + 1) i_law_digits [a0, a1, a2] hp) Q := run_of (fn := f_law_digits) rfl rfl h
theorem r_law_draw {n : Nat} {a0 a1 : D} {hp : List HOb} {Q : D → List HOb → Prop} (h : OW (evSs (runF tab n) b_law_draw ⟨[some (.val a0), some (.val a1), none], hp⟩) { nx := fun s => Q .non (gc hp.length .non s.hp), rt := fun d s => CW (finC hp.length (.rt d s)) Q }) : CW (runF tab (n + 1) i_law_draw [a0, a1] hp) Q := run_of (fn := f_law_draw) rfl rfl h
theorem r_law_same {n : Nat} {a0 a1 : D} {hp : List HOb} {Q : D → List HOb → Prop} (h : OW (evSs (runF tab n) b_law_same ⟨[some (.val a0), some (.val a1)], hp⟩) { nx := fun s => Q .non (gc hp.length .non s.hp), rt := fun d s => CW (finC hp.length (.rt d s)) Q }) : CW (runF tab (n + 1) i_law_same [a0, a1] hp) Q := run_of (fn := f_law_same) rfl rfl h
theorem r_law_basin {n : Nat} {a0 : D} {hp : List HOb} {Q : D → List HOb → Prop} (h : OW (evSs (runF tab n) b_law_basin ⟨[some (.val a0), none, none, none, none, none, none, none, none, none, none], hp⟩) { nx := fun s => Q .non (gc hp.length .non s.hp), rt := fun d s => CW (finC hp.length (.rt d s)) Q }) : CW (runF tab (n + 1) i_law_basin [a0] hp) Q := run_of (fn := f_law_basin) rfl rfl h
theorem r_law_demands {n : Nat} {a0 a1 : D} {hp : List HOb} {Q : D → List HOb → Prop} (h : OW (evSs (runF tab n) b_law_demands ⟨[some (.val a0), some (.val a1), none], hp⟩) { nx := fun s => Q .non (gc hp.length .non s.hp), rt := fun d s => CW (finC hp.length (.rt d s)) Q }) : CW (runF tab (n + 1) i_law_demands [a0, a1] hp) Q := run_of (fn := f_law_demands) rfl rfl h
theorem r_law_more_rights {n : Nat} {a0 a1 : D} {hp : List HOb} {Q : D → List HOb → Prop} (h : OW (evSs (runF tab n) b_law_more_rights ⟨[some (.val a0), some (.val a1), none, none, none, none], hp⟩) { nx := fun s => Q .non (gc hp.length .non s.hp), rt := fun d s => CW (finC hp.length (.rt d s)) Q }) : CW (runF tab (n + 1) i_law_more_rights [a0, a1] hp) Q := run_of (fn := f_law_more_rights) rfl rfl h
theorem r_law_under {n : Nat} {a0 a1 : D} {hp : List HOb} {Q : D → List HOb → Prop} (h : OW (evSs (runF tab n) b_law_under ⟨[some (.val a0), some (.val a1), none, none, none, none, none, none, none, none, none, none, none, none, none, none], hp⟩) { nx := fun s => Q .non (gc hp.length .non s.hp), rt := fun d s => CW (finC hp.length (.rt d s)) Q }) : CW (runF tab (n + 1) i_law_under [a0, a1] hp) Q := run_of (fn := f_law_under) rfl rfl h
theorem r_law_leases {n : Nat} {a0 a1 a2 a3 : D} {hp : List HOb} {Q : D → List HOb → Prop} (h : OW (evSs (runF tab n) b_law_leases ⟨[some (.val a0), some (.val a1), some (.val a2), some (.val a3), none, none, none, none, none, none, none], hp⟩) { nx := fun s => Q .non (gc hp.length .non s.hp), rt := fun d s => CW (finC hp.length (.rt d s)) Q }) : CW (runF tab (n + 1) i_law_leases [a0, a1, a2, a3] hp) Q := run_of (fn := f_law_leases) rfl rfl h
theorem r_law {n : Nat} {a0 : D} {hp : List HOb} {Q : D → List HOb → Prop} (h : OW (evSs (runF tab n) b_law ⟨[some (.val a0), none, none, none, none, none, none], hp⟩) { nx := fun s => Q .non (gc hp.length .non s.hp), rt := fun d s => CW (finC hp.length (.rt d s)) Q }) : CW (runF tab (n + 1) i_law [a0] hp) Q := run_of (fn := f_law) rfl rfl h
end L23
end
set_option hygiene false in
local macro_rules
  | `(tactic| decreasing_trivial_pre_omega) => `(tactic| (repeat' (first
    | with_reducible refine s_cons ?_
    | with_reducible refine s_asg ?_
    | with_reducible refine s_killE (by simp only [kill, MSt.setS, List.set_cons_succ, List.set_cons_zero]; exact rfl) ?_
    | with_reducible refine s_expr ?_
    | with_reducible refine s_ite ?_
    | with_reducible refine s_ret ?_
    | with_reducible refine s_retN ?_
    | with_reducible refine s_brk ?_
    | with_reducible refine s_cnt ?_
    | with_reducible refine s_pass ?_
    | with_reducible refine s_for ?_
    | with_reducible refine s_aug rfl ?_
    | with_reducible refine e_val rfl ?_
    | with_reducible refine e_own rfl ?_
    | with_reducible refine e_int ?_
    | with_reducible refine e_bin ?_
    | with_reducible refine e_ix ?_
    | with_reducible refine e_call ?_
    | with_reducible refine e_bi ?_
    | with_reducible refine e_cmp ?_
    | with_reducible refine e_str ?_
    | with_reducible refine e_non ?_
    | with_reducible refine e_bl ?_
    | with_reducible refine e_glob ?_
    | with_reducible refine e_bm ?_
    | with_reducible refine e_tup ?_
    | with_reducible refine e_lst ?_
    | with_reducible refine e_box ?_
    | with_reducible refine e_not ?_
    | with_reducible refine e_neg ?_
    | with_reducible refine e_chain ?_
    | with_reducible refine e_ite ?_
    | with_reducible refine e_slc ?_
    | with_reducible refine e_lc ?_
    | with_reducible refine es_cons ?_
    | with_reducible refine es_nil ?_
    | with_reducible refine fs_cons ?_
    | with_reducible refine fs_nil ?_
    | with_reducible refine c_of ?_
    | with_reducible refine c_not ?_
    | with_reducible refine c_bool ?_
    | with_reducible refine cs_cons ?_
    | with_reducible refine cs_nil ?_
    | with_reducible refine p_of ?_
    | with_reducible refine p_absent ?_
    | with_reducible refine i_of ?_
    | with_reducible refine i_enum ?_
    | with_reducible refine i_rng ?_
    | with_reducible refine i_rng2 ?_
    | with_reducible refine fr_int ?_
    | with_reducible refine fr_str ?_
    | with_reducible refine fr_non ?_
    | with_reducible refine fr_tup ?_
    | with_reducible refine fr_lst ?_
    | with_reducible refine fr_ref ?_
    | with_reducible refine fr_bl ?_
    | with_reducible refine fr_nw ?_
    | with_reducible refine fr_scr ?_
    | with_reducible refine fr_sol (by assumption) ?_
    | with_reducible refine t_nameI (by simp only [List.set_cons_succ, List.set_cons_zero]; exact rfl) ?_
    | with_reducible refine t_nameS (by simp only [List.set_cons_succ, List.set_cons_zero]; exact rfl) ?_
    | with_reducible refine t_nameB (by simp only [List.set_cons_succ, List.set_cons_zero]; exact rfl) ?_
    | with_reducible refine t_name0 (by simp only [List.set_cons_succ, List.set_cons_zero]; exact rfl) ?_
    | with_reducible refine t_nameT (by simp only [List.set_cons_succ, List.set_cons_zero]; exact rfl) ?_
    | with_reducible refine t_nameL (by simp only [List.set_cons_succ, List.set_cons_zero]; exact rfl) ?_
    | with_reducible refine t_nameR (by simp only [List.set_cons_succ, List.set_cons_zero]; exact rfl) ?_
    | with_reducible refine t_nameN (by simp only [List.set_cons_succ, List.set_cons_zero]; exact rfl) ?_
    | with_reducible refine t_tup rfl ?_
    | with_reducible refine ts_cons ?_
    | with_reducible refine ts_nil ?_
    | with_reducible refine t_ix ?_
    | with_reducible refine b_add ?_
    | with_reducible refine b_sub ?_
    | with_reducible refine b_mod (by decide) ?_
    | with_reducible refine b_mod (by assumption) ?_
    | with_reducible refine b_mul (small_r (by decide)) ?_
    | with_reducible refine b_mul (small_l (by decide)) ?_
    | with_reducible refine b_div (by decide) ?_
    | with_reducible refine b_pow (by decide) ?_
    | with_reducible refine s_nil ?_
    | with_reducible refine x_bx0 ?_
    | with_reducible refine x_bx1 ?_
    | with_reducible refine g_bx ?_
    | with_reducible refine k_lt ?_
    | with_reducible refine k_le ?_
    | with_reducible refine k_gt ?_
    | with_reducible refine k_ge ?_
    | with_reducible refine k_eqi ?_
    | with_reducible refine k_nei ?_
    | with_reducible refine k_eqs ?_
    | with_reducible refine k_nes ?_
    | with_reducible refine tr_bl ?_
    | with_reducible refine o_fork (fun hb => ?_) (fun hb => ?_)
    | with_reducible refine o_forkN (fun hb => ?_) (fun hb => ?_)
    | with_reducible refine p_fork (fun hb => ?_) (fun hb => ?_)
    | with_reducible refine p_forkN (fun hb => ?_) (fun hb => ?_)
    | with_reducible refine p_and (fun hb => ?_) (fun hb => ?_)
    | with_reducible refine p_or (fun hb => ?_) (fun hb => ?_)
    | with_reducible refine p_andN (fun hb => ?_) (fun hb => ?_)
    | with_reducible refine p_orN (fun hb => ?_) (fun hb => ?_)
    | with_reducible refine p_tt ?_
    | with_reducible refine p_tf ?_
    | with_reducible refine p_ft ?_
    | with_reducible refine p_ff ?_
    | with_reducible refine p_true ?_
    | with_reducible refine p_false ?_
    | with_reducible refine o_true ?_
    | with_reducible refine o_false ?_
    | with_reducible refine o_ntrue ?_
    | with_reducible refine o_nfalse ?_
    | with_reducible refine bi_int ?_
    | with_reducible refine bi_lenT ?_
    | with_reducible refine bi_lenL ?_
    | with_reducible refine bi_lenN ?_
    | with_reducible refine bi_lenC ?_
    | with_reducible refine bi_lenO rfl ?_
    | with_reducible refine bi_tupT ?_
    | with_reducible refine bi_tupN ?_
    | with_reducible refine bi_tupL ?_
    | with_reducible refine bi_tupO rfl ?_
    | with_reducible refine bi_lisT ?_
    | with_reducible refine bi_lisL ?_
    | with_reducible refine bk_own rfl ?_
    | with_reducible refine g_own rfl ?_ (by simp only [List.set_cons_succ, List.set_cons_zero]; exact rfl) ?_
    | with_reducible refine m_app rfl ?_ (by simp only [List.set_cons_succ, List.set_cons_zero]; exact rfl) ?_
    | with_reducible refine x_tup (by with_unfolding_all exact rfl) ?_
    | with_reducible refine for_turn ?_
    | with_reducible refine wv_tup ?_
    | with_reducible refine wv_lst ?_
    | with_reducible refine wv_nw ?_
    | with_reducible refine wv_str ?_
    | with_reducible refine wv_lock rfl (by simp only [List.set_cons_succ, List.set_cons_zero]; exact rfl) ?_
    | with_reducible refine wv_frz rfl (by simp only [List.set_cons_succ, List.set_cons_zero]; exact rfl) ?_
    | with_reducible refine sv_tup ?_
    | with_reducible refine sv_lst ?_
    | with_reducible refine sv_nw ?_
    | with_reducible refine sv_lock rfl (by simp only [List.set_cons_succ, List.set_cons_zero]; exact rfl) ?_
    | with_reducible refine lk_free rfl ?_
    | with_reducible refine b_cat1 (by decide) ?_
    | with_reducible refine len_ok (by simp only [List.length_cons, List.length_nil]; decide) ?_
    | with_reducible refine rg (by decide) ?_
    | with_reducible refine fin_own rfl rfl ?_
    | with_reducible refine fin_nw rfl ?_
    | with_reducible refine fin_rt rfl rfl ?_
    | dsimp only
    | simp only [Bool.false_eq_true, if_false])))
section
set_option maxRecDepth 100000
set_option maxHeartbeats 1000000
set_option autoImplicit false
namespace L23
open PySem MP
theorem draw_st {n : Nat} {ds : List Int} {at' m : Int} {Q : D → List HOb → Prop} (ha : 0 ≤ at') (hm : 0 < m) (h : ∀ v a : Int, 0 ≤ v → v < m → 0 ≤ a → Q (.int v) [bx ds a]) : CW (runF tab (n + 1) i_law_draw [.ref 0, .int m] [bx ds at']) Q := by
  refine r_law_draw ?_
  unfold b_law_draw
  decreasing_trivial_pre_omega
  · rw [List.length_map] at hb
    have hl : at'.toNat < ds.length := by omega
    refine x_ints ha (List.getElem?_eq_getElem hl) ?_
    decreasing_trivial_pre_omega
    exact h _ _ (Int.emod_nonneg _ (by omega)) (Int.emod_lt_of_pos _ hm) (by omega)
  · exact h _ _ (Int.emod_nonneg _ (by omega)) (Int.emod_lt_of_pos _ hm) (by omega)
theorem cell_st {n : Nat} {ns : List Int} {k : Int} {Q : D → List HOb → Prop} (hk : 0 ≤ k) (h : ∀ v : Int, Q (.int v) []) : CW (runF tab (n + 1) i_law_cell [.scr ns, .int k] []) Q := by
  refine r_law_cell ?_
  unfold b_law_cell
  decreasing_trivial_pre_omega
  · have hl : k.toNat < ns.length := by omega
    refine x_scr (atI_of hk (List.getElem?_eq_getElem hl)) ?_
    decreasing_trivial_pre_omega
    exact h _
  · exact h _
theorem digits_st {n : Nat} {ns : List Int} {Q : D → List HOb → Prop} (h : ∀ ds : List Int, Q (.nw (ds.map D.int)) []) : CW (runF tab (n + 2) i_law_digits [.scr ns, .int 0, .int 60] []) Q := by
  refine r_law_digits ?_
  unfold b_law_digits
  decreasing_trivial_pre_omega
  refine for_rng (fun i s => ∃ ds : List Int, ds.length ≤ 60 * i ∧ s = ⟨[some (.val (.scr ns)), some (.val (.int 0)), some (.val (.int 60)), some (.own (ds.map D.int)), none, none, none, none], []⟩) ⟨[], Nat.zero_le _, rfl⟩ ?_ ?_
  · rintro i s hi ⟨ds, hl, rfl⟩
    decreasing_trivial_pre_omega
    refine cell_st ?_ fun v => ?_
    · omega
    decreasing_trivial_pre_omega
    all_goals first
      | refine for_rng (fun p s => ∃ (es : List Int) (c : Int), es.length ≤ 60 * i + p ∧ s = ⟨[some (.val (.scr ns)), some (.val (.int 0)), some (.val (.int 60)), some (.own (es.map D.int)), none, some (.val (.int c)), none, none], []⟩) ⟨ds, _, hl, rfl⟩ ?_ ?_
        · rintro p s hp ⟨es, c, he, rfl⟩
          decreasing_trivial_pre_omega
          · rw [List.length_map, szl]; omega
          · exact ⟨es ++ [_], _, by rw [List.length_append]; show es.length + 1 ≤ _; omega, by rw [List.map_append]; rfl⟩
          · exact ⟨es, c, by omega, rfl⟩
        · rintro s ⟨es, c, he, rfl⟩
          decreasing_trivial_pre_omega
          exact ⟨es, by have : (60 - 0 : Int).toNat = 60 := rfl; omega, rfl⟩
      | refine for_rng (fun p s => ∃ (es : List Int) (c : Int), es.length ≤ 60 * i + p ∧ s = ⟨[some (.val (.scr ns)), some (.val (.int 0)), some (.val (.int 60)), some (.own (es.map D.int)), none, none, none, some (.val (.int c))], []⟩) ⟨ds, _, hl, rfl⟩ ?_ ?_
        · rintro p s hp ⟨es, c, he, rfl⟩
          decreasing_trivial_pre_omega
          · rw [List.length_map, szl]; have : (12 - 0 : Int).toNat = 12 := rfl; omega
          · exact ⟨es ++ [_], _, by rw [List.length_append]; show es.length + 1 ≤ _; omega, by rw [List.map_append]; rfl⟩
        · rintro s ⟨es, c, he, rfl⟩
          decreasing_trivial_pre_omega
          exact ⟨es, by have : (12 - 0 : Int).toNat = 12 := rfl; omega, rfl⟩
  · rintro s ⟨ds, hl, rfl⟩
    decreasing_trivial_pre_omega
    exact h ds
end L23
end
section
set_option maxRecDepth 100000
set_option maxHeartbeats 1000000
set_option autoImplicit false
namespace L23
open PySem MP
/-- a list of numbers that are drawn -/
theorem demands_st {n : Nat} {ds : List Int} {at' m : Int} {Q : D → List HOb → Prop} (ha : 0 ≤ at') (hm : 0 ≤ m ∧ m ≤ 4) (h : ∀ (xs : List Int) (a : Int), xs.length = m.toNat → (∀ x ∈ xs, 0 ≤ x ∧ x < 7) → 0 ≤ a → Q (.tup (xs.map D.int)) [bx ds a]) : CW (runF tab (n + 2) i_law_demands [.ref 0, .int m] [bx ds at']) Q := by
  refine r_law_demands ?_
  unfold b_law_demands
  decreasing_trivial_pre_omega
  refine rg (by omega) ?_
  decreasing_trivial_pre_omega
  refine lc_rng (fun i acc s => ∃ (xs : List Int) (a : Int), acc = xs.map D.int ∧ xs.length = i ∧ (∀ x ∈ xs, 0 ≤ x ∧ x < 7) ∧ 0 ≤ a ∧ s = ⟨[some (.val (.ref 0)), some (.val (.int m)), none], [bx ds a]⟩) ⟨[], at', rfl, rfl, by simp, ha, rfl⟩ ?_ ?_
  · rintro i acc s hi ⟨xs, a, rfl, hl, hx, ha', rfl⟩
    refine lc_turn ?_
    decreasing_trivial_pre_omega
    refine draw_st ha' (by decide) fun v a2 h1 h2 h3 => ?_
    decreasing_trivial_pre_omega
    refine ⟨by rw [List.length_map, szl]; omega, xs ++ [v], a2, by simp, by simp [hl], ?_, h3, rfl⟩
    intro x hx'
    rcases List.mem_append.mp hx' with z | z
    · exact hx x z
    · rw [List.mem_singleton.mp z]; exact ⟨h1, h2⟩
  · rintro acc s ⟨xs, a, rfl, hl, hx, ha', rfl⟩
    decreasing_trivial_pre_omega
    exact h xs a (by rw [hl, Int.sub_zero]) hx ha'
end L23
end
section
set_option maxRecDepth 100000
set_option maxHeartbeats 1000000
set_option autoImplicit false
namespace L23
open PySem MP
def siteName (z : Str) : Prop := z = "sa" ∨ z = "sb" ∨ z = "sc" ∨ z = "sd"
theorem site_of {j : Int} (h0 : 0 ≤ j) (h1 : j < 4) : siteName ("s" ++ (⟨#[97 + j.toNat]⟩ : Str)) := by
  have z : j = 0 ∨ j = 1 ∨ j = 2 ∨ j = 3 := by omega
  unfold siteName
  rcases z with rfl | rfl | rfl | rfl <;> decide +kernel
abbrev encS (p : Str × List D) : D := .tup (.str p.1 :: p.2)
abbrev sitesOk (S : List (Str × List D)) : Prop := ∀ p ∈ S, siteName p.1
theorem sitesAdd {S : List (Str × List D)} {p : Str × List D} (h : sitesOk S) (hp : siteName p.1) : sitesOk (S ++ [p]) := fun x hx => by
  rcases List.mem_append.mp hx with z | z
  · exact h x z
  · rw [List.mem_singleton.mp z]; exact hp
theorem basin_st {n : Nat} {ds : List Int} {at' : Int} {Q : D → List HOb → Prop} (ha : 0 ≤ at') (h : ∀ (m : Int) (S : List (Str × List D)) (a : Int), 1 ≤ m → m ≤ 4 → S ≠ [] → S.length ≤ 4 → sitesOk S → 0 ≤ a → Q (.tup [.int m, .tup (S.map encS)]) [bx ds a]) : CW (runF tab (n + 2) i_law_basin [.ref 0] [bx ds at']) Q := by
  refine r_law_basin ?_
  unfold b_law_basin
  decreasing_trivial_pre_omega
  refine draw_st ha (by decide) fun v1 a1 h1 h2 h3 => ?_
  decreasing_trivial_pre_omega
  refine draw_st h3 (by decide) fun v2 a2 h4 h5 h6 => ?_
  decreasing_trivial_pre_omega
  refine draw_st h6 (by decide) fun v3 a3 h7 h8 h9 => ?_
  decreasing_trivial_pre_omega
  refine draw_st h9 (by decide) fun v4 a4 h10 h11 h12 => ?_
  decreasing_trivial_pre_omega
  obtain ⟨x, hx, m, rfl, hm⟩ := atI_all (xs := [D.int (1 + v2), D.int (1 + v3), D.int (1 + v4)]) (j := 1 + v1 - 1) (P := fun x => ∃ m : Int, x = .int m ∧ 1 ≤ m ∧ m ≤ 4) (by omega) (by show _ < (3 : Int); omega) (by
    intro x hx
    simp only [List.mem_cons, List.not_mem_nil, or_false] at hx
    rcases hx with rfl | rfl | rfl
    · exact ⟨_, rfl, by omega, by omega⟩
    · exact ⟨_, rfl, by omega, by omega⟩
    · exact ⟨_, rfl, by omega, by omega⟩)
  refine x_nw hx ?_
  decreasing_trivial_pre_omega
  refine rg (by omega) ?_
  decreasing_trivial_pre_omega
  refine for_rng (fun i s => ∃ (S : List (Str × List D)) (a : Int), S.length = i ∧ sitesOk S ∧ 0 ≤ a ∧ s = ⟨[some (.val (.ref 0)), some (.val (.int (1 + v1))), some (.val (.int m)), some (.own (S.map encS)), none, none, none, none, none, none, none], [bx ds a]⟩) ⟨[], a4, rfl, by simp, h12, rfl⟩ ?_ ?_
  · rintro i s hi ⟨S, a, hl, hS, ha', rfl⟩
    decreasing_trivial_pre_omega
    · refine draw_st ha' (by omega) fun u1 c1 e1 e2 e3 => ?_
      decreasing_trivial_pre_omega
      refine x_abcd (by omega) (by omega) ?_
      decreasing_trivial_pre_omega
      refine draw_st e3 (by decide) fun u2 c2 e4 e5 e6 => ?_
      decreasing_trivial_pre_omega
      obtain ⟨tr, ht1, ht2⟩ := atI_all (xs := [D.int 0, D.int 0, D.int 1, D.int 2]) (j := u2) (P := fun x => x.sol = true) e4 (by show _ < (4 : Int); omega) (by decide)
      refine x_nw ht1 ?_
      decreasing_trivial_pre_omega
      refine t_nameV ht2 (by simp only [List.set_cons_succ, List.set_cons_zero]; exact rfl) ?_
      decreasing_trivial_pre_omega
      refine draw_st e6 (by decide) fun u3 c3 e7 e8 e9 => ?_
      decreasing_trivial_pre_omega
      refine draw_st e9 (by decide) fun u4 c4 e7 e8 e9 => ?_
      decreasing_trivial_pre_omega
      obtain ⟨re, hr1, hr2⟩ := atI_all (xs := [D.non, D.non, D.int u3]) (j := u4) (P := fun x => x.sol = true) e7 (by show _ < (3 : Int); omega) (by
        intro x hx
        simp only [List.mem_cons, List.not_mem_nil, or_false] at hx
        rcases hx with rfl | rfl | rfl <;> rfl)
      refine x_nw hr1 ?_
      decreasing_trivial_pre_omega
      refine t_nameV hr2 (by simp only [List.set_cons_succ, List.set_cons_zero]; exact rfl) ?_
      decreasing_trivial_pre_omega
      refine draw_st e9 (by decide) fun w1 b1 g1 g2 g3 => ?_
      decreasing_trivial_pre_omega
      refine draw_st g3 (by decide) fun w2 b2 g4 g5 g6 => ?_
      decreasing_trivial_pre_omega
      refine draw_st g6 (by decide) fun w3 b3 g7 g8 g9 => ?_
      decreasing_trivial_pre_omega
      obtain ⟨x, hx1, r, rfl, hr⟩ := atI_all (xs := [D.int 0, D.int w1, D.int w2]) (j := w3) (P := fun x => ∃ r : Int, x = .int r ∧ 0 ≤ r) g7 (by show _ < (3 : Int); omega) (by
        intro x hx
        simp only [List.mem_cons, List.not_mem_nil, or_false] at hx
        rcases hx with rfl | rfl | rfl
        · exact ⟨_, rfl, by omega⟩
        · exact ⟨_, rfl, g1⟩
        · exact ⟨_, rfl, g4⟩)
      refine x_nw hx1 ?_
      decreasing_trivial_pre_omega
      refine draw_st g9 (by omega) fun w4 b4 g10 g11 g12 => ?_
      decreasing_trivial_pre_omega
      refine draw_st g12 (by decide) fun w5 b5 g13 g14 g15 => ?_
      decreasing_trivial_pre_omega
      refine b_mul (small_r (by omega)) ?_
      decreasing_trivial_pre_omega
      refine x_abcd (by omega) (by omega) ?_
      decreasing_trivial_pre_omega
      refine rg (by omega) ?_
      decreasing_trivial_pre_omega
      refine lc_rng (fun i2 acc s => ∃ (xs : List Int) (b : Int), acc = xs.map D.int ∧ xs.length = i2 ∧ 0 ≤ b ∧ s = ⟨[some (.val (.ref 0)), some (.val (.int (1 + v1))), some (.val (.int m)), some (.own (S.map encS)), some (.val (.int (0 + (i : Int)))), some (.val (.str ("s" ++ (⟨#[97 + (0 + (i : Int) + 1 + u1).toNat]⟩ : Str)))), some (.val tr), some (.val re), some (.val (.int r)), some (.val (.int (w4 * w5))), none], [bx ds b]⟩) ⟨[], b5, rfl, rfl, g15, rfl⟩ ?_ ?_
      · rintro i2 acc s hi2 ⟨xs, b, rfl, hxl, hb2, rfl⟩
        refine lc_turn ?_
        decreasing_trivial_pre_omega
        refine draw_st hb2 (by decide) fun w6 b6 g16 g17 g18 => ?_
        decreasing_trivial_pre_omega
        exact ⟨by rw [List.length_map, szl]; omega, xs ++ [w6], b6, by simp, by simp [hxl], g18, rfl⟩
      · rintro acc s ⟨xs, b, rfl, hxl, hb2, rfl⟩
        decreasing_trivial_pre_omega
        · rw [List.length_map, szl]; omega
        · exact ⟨S ++ [(_, _)], b, by simp [hl], sitesAdd hS (site_of (j := 0 + (i : Int)) (by omega) (by omega)), hb2, by rw [List.map_append]; rfl⟩
    · skip
      refine draw_st ha' (by decide) fun w1 b1 g1 g2 g3 => ?_
      decreasing_trivial_pre_omega
      refine draw_st g3 (by decide) fun w2 b2 g4 g5 g6 => ?_
      decreasing_trivial_pre_omega
      refine draw_st g6 (by decide) fun w3 b3 g7 g8 g9 => ?_
      decreasing_trivial_pre_omega
      obtain ⟨x, hx1, r, rfl, hr⟩ := atI_all (xs := [D.int 0, D.int w1, D.int w2]) (j := w3) (P := fun x => ∃ r : Int, x = .int r ∧ 0 ≤ r) g7 (by show _ < (3 : Int); omega) (by
        intro x hx
        simp only [List.mem_cons, List.not_mem_nil, or_false] at hx
        rcases hx with rfl | rfl | rfl
        · exact ⟨_, rfl, by omega⟩
        · exact ⟨_, rfl, g1⟩
        · exact ⟨_, rfl, g4⟩)
      refine x_nw hx1 ?_
      decreasing_trivial_pre_omega
      refine draw_st g9 (by omega) fun w4 b4 g10 g11 g12 => ?_
      decreasing_trivial_pre_omega
      refine draw_st g12 (by decide) fun w5 b5 g13 g14 g15 => ?_
      decreasing_trivial_pre_omega
      refine b_mul (small_r (by omega)) ?_
      decreasing_trivial_pre_omega
      refine x_abcd (by omega) (by omega) ?_
      decreasing_trivial_pre_omega
      refine rg (by omega) ?_
      decreasing_trivial_pre_omega
      refine lc_rng (fun i2 acc s => ∃ (xs : List Int) (b : Int), acc = xs.map D.int ∧ xs.length = i2 ∧ 0 ≤ b ∧ s = ⟨[some (.val (.ref 0)), some (.val (.int (1 + v1))), some (.val (.int m)), some (.own (S.map encS)), some (.val (.int (0 + (i : Int)))), some (.val .non), some (.val (.int 0)), some (.val .non), some (.val (.int r)), some (.val (.int (w4 * w5))), none], [bx ds b]⟩) ⟨[], b5, rfl, rfl, g15, rfl⟩ ?_ ?_
      · rintro i2 acc s hi2 ⟨xs, b, rfl, hxl, hb2, rfl⟩
        refine lc_turn ?_
        decreasing_trivial_pre_omega
        refine draw_st hb2 (by decide) fun w6 b6 g16 g17 g18 => ?_
        decreasing_trivial_pre_omega
        exact ⟨by rw [List.length_map, szl]; omega, xs ++ [w6], b6, by simp, by simp [hxl], g18, rfl⟩
      · rintro acc s ⟨xs, b, rfl, hxl, hb2, rfl⟩
        decreasing_trivial_pre_omega
        · rw [List.length_map, szl]; omega
        · exact ⟨S ++ [(_, _)], b, by simp [hl], sitesAdd hS (site_of (j := 0 + (i : Int)) (by omega) (by omega)), hb2, by rw [List.map_append]; rfl⟩
  · rintro s ⟨S, a, hl, hS, ha', rfl⟩
    decreasing_trivial_pre_omega
    refine h m S a hm.1 hm.2 ?_ (by omega) hS ha'
    intro z
    rw [z] at hl
    simp at hl
    omega
end L23
end
section
set_option maxRecDepth 100000
set_option maxHeartbeats 1000000
set_option autoImplicit false
namespace L23
open PySem MP
structure R where
  nm : Str
  st : Str
  dm : List Int
abbrev encR (r : R) : D := .tup [.str r.nm, .str r.st, .tup (r.dm.map D.int)]
def rname (i : Nat) : Str := "r" ++ (⟨#[97 + i]⟩ : Str)
structure RsOk (m : Int) (rs : List R) : Prop where
  nm : ∀ i r, rs[i]? = some r → r.nm = rname i
  st : ∀ r ∈ rs, siteName r.st
  len : ∀ r ∈ rs, r.dm.length = m.toNat
  dm : ∀ r ∈ rs, ∀ x ∈ r.dm, 0 ≤ x ∧ x < 7
theorem RsOk.add {m : Int} {rs : List R} {r : R} (h : RsOk m rs) (h1 : r.nm = rname rs.length) (h2 : siteName r.st) (h3 : r.dm.length = m.toNat) (h4 : ∀ x ∈ r.dm, 0 ≤ x ∧ x < 7) : RsOk m (rs ++ [r]) := by
  refine ⟨fun i x hx => ?_, fun x hx => ?_, fun x hx => ?_, fun x hx => ?_⟩
  · by_cases hi : i < rs.length
    · rw [List.getElem?_append_left hi] at hx
      exact h.nm i x hx
    · have hl := (List.getElem?_eq_some_iff.mp hx).1
      rw [List.length_append] at hl
      have e : i = rs.length := by
        have e1 : [r].length = 1 := rfl
        omega
      subst e
      rw [List.getElem?_append_right (Nat.le_refl _), Nat.sub_self] at hx
      cases hx
      exact h1
  all_goals
    rcases List.mem_append.mp hx with z | z
    · first | exact h.st x z | exact h.len x z | exact h.dm x z
    · rw [List.mem_singleton.mp z]; assumption
theorem rights_st {n : Nat} {ds : List Int} {at' m : Int} {S : List (Str × List D)} {Q : D → List HOb → Prop} (ha : 0 ≤ at') (hm : 0 ≤ m ∧ m ≤ 4) (hS : sitesOk S) (hS1 : S ≠ []) (hS2 : S.length ≤ 4)
    (h : ∀ (rs : List R) (a : Int), RsOk m rs → 2 ≤ rs.length → rs.length ≤ 4 → 0 ≤ a → Q (.tup (rs.map encR)) [bx ds a]) : CW (runF tab (n + 3) i_law_more_rights [.ref 0, .tup [.int m, .tup (S.map encS)]] [bx ds at']) Q := by
  refine r_law_more_rights ?_
  unfold b_law_more_rights
  decreasing_trivial_pre_omega
  refine lc_ind (fun i acc s => acc = (S.take i).map (fun p => D.str p.1) ∧ s = ⟨[some (.val (.ref 0)), some (.val (.tup [.int m, .tup (S.map encS)])), none, none, none, none], [bx ds at']⟩) ⟨rfl, rfl⟩ ?_ ?_
  · rintro i x acc s hx ⟨rfl, rfl⟩
    rw [List.getElem?_map] at hx
    cases hp : S[i]? with
    | none => rw [hp] at hx; cases hx
    | some p =>
      rw [hp] at hx
      cases hx
      have hi := (List.getElem?_eq_some_iff.mp hp).1
      refine lc_turn ?_
      decreasing_trivial_pre_omega
      refine x_tup (atI_of (by decide) rfl) ?_
      decreasing_trivial_pre_omega
      refine ⟨by rw [List.length_map, List.length_take, szl]; omega, ?_, rfl⟩
      rw [List.take_succ, hp]
      simp
  · rintro acc s ⟨rfl, rfl⟩
    rw [List.length_map, List.take_length]
    decreasing_trivial_pre_omega
    refine draw_st ha (by decide) fun v a h1 h2 h3 => ?_
    decreasing_trivial_pre_omega
    refine rg (by omega) ?_
    decreasing_trivial_pre_omega
    refine for_rng (fun i s => ∃ (rs : List R) (a : Int), RsOk m rs ∧ rs.length = i ∧ 0 ≤ a ∧ s = ⟨[some (.val (.ref 0)), some (.val (.tup [.int m, .tup (S.map encS)])), some (.own (S.map fun p => D.str p.1)), none, some (.own (rs.map encR)), none], [bx ds a]⟩) ⟨[], a, ⟨by simp, by simp, by simp, by simp⟩, rfl, h3, rfl⟩ ?_ ?_
    · rintro i s hi ⟨rs, a, hr, hl, ha', rfl⟩
      decreasing_trivial_pre_omega
      refine x_abcd (by omega) (by omega) ?_
      decreasing_trivial_pre_omega
      refine draw_st ha' (by decide) fun v1 a1 g1 g2 g3 => ?_
      decreasing_trivial_pre_omega
      have hlen : 0 < S.length := List.length_pos_iff.mpr hS1
      refine b_mod (by rw [List.length_map]; omega) ?_
      decreasing_trivial_pre_omega
      rw [List.length_map]
      have q1 : 0 ≤ v1 % (S.length : Int) := Int.emod_nonneg _ (by omega)
      have q2 : v1 % (S.length : Int) < S.length := Int.emod_lt_of_pos _ (by omega)
      obtain ⟨x, hx, z, rfl, hz⟩ := atI_all (xs := S.map fun p => D.str p.1) (j := v1 % (S.length : Int)) (P := fun x => ∃ z, x = .str z ∧ siteName z) q1 (by rw [List.length_map]; exact q2) (by
        intro x hx
        obtain ⟨p, hp, rfl⟩ := List.mem_map.mp hx
        exact ⟨_, rfl, hS p hp⟩)
      refine x_own rfl hx ?_
      decreasing_trivial_pre_omega
      refine demands_st g3 hm fun xs a2 e1 e2 e3 => ?_
      decreasing_trivial_pre_omega
      · rw [List.length_map, szl]; omega
      · refine ⟨rs ++ [⟨_, z, xs⟩], a2, hr.add ?_ hz e1 e2, by simp [hl], e3, by rw [List.map_append]; rfl⟩
        show "r" ++ (⟨#[97 + (0 + (i : Int)).toNat]⟩ : Str) = rname rs.length
        rw [hl, Int.zero_add, Int.toNat_natCast]
        rfl
    · rintro s ⟨rs, a, hr, hl, ha', rfl⟩
      decreasing_trivial_pre_omega
      exact h rs a hr (by omega) (by omega) ha'
end L23
end
section
set_option maxRecDepth 100000
set_option maxHeartbeats 1000000
set_option autoImplicit false
namespace L23
open PySem MP
structure Le where
  ld : Str
  bo : Str
  mo : Int
  am : Int
abbrev encL (l : Le) : D := .tup [.str l.ld, .str l.bo, .int l.mo, .int l.am]
def pick (ld : Str) (mo : Int) (l : Le) : Option Int := if l.ld = ld ∧ l.mo = mo then some l.am else none
def lentv (ls : List Le) (ld : Str) (mo : Int) : Int := (ls.filterMap (pick ld mo)).sum
theorem take_pick {ls : List Le} {ld : Str} {mo : Int} {i : Nat} {l : Le} (h : ls[i]? = some l) : (ls.take (i + 1)).filterMap (pick ld mo) = (ls.take i).filterMap (pick ld mo) ++ (pick ld mo l).toList := by
  rw [List.take_succ, h, List.filterMap_append]
  cases q : pick ld mo l <;> simp [q]
theorem take_yes {ls : List Le} {ld : Str} {mo : Int} {i : Nat} {l : Le} (h : ls[i]? = some l) (h1 : l.ld = ld) (h2 : l.mo = mo) : ((ls.take i).filterMap (pick ld mo)).map D.int ++ [.int l.am] = ((ls.take (i + 1)).filterMap (pick ld mo)).map D.int := by
  have e : pick ld mo l = some l.am := if_pos ⟨h1, h2⟩
  rw [take_pick h, e, List.map_append]
  rfl
theorem take_no1 {ls : List Le} {ld : Str} {mo : Int} {i : Nat} {l : Le} (h : ls[i]? = some l) (h1 : ¬ l.ld = ld) : ((ls.take i).filterMap (pick ld mo)).map D.int = ((ls.take (i + 1)).filterMap (pick ld mo)).map D.int := by
  have e : pick ld mo l = none := if_neg fun z => h1 z.1
  rw [take_pick h, e, List.map_append]
  simp
theorem take_no2 {ls : List Le} {ld : Str} {mo : Int} {i : Nat} {l : Le} (h : ls[i]? = some l) (h1 : ¬ l.mo = mo) : ((ls.take i).filterMap (pick ld mo)).map D.int = ((ls.take (i + 1)).filterMap (pick ld mo)).map D.int := by
  have e : pick ld mo l = none := if_neg fun z => h1 z.2
  rw [take_pick h, e, List.map_append]
  simp
theorem get_map {α : Type} {f : α → D} {xs : List α} {i : Nat} {x : D} (h : (xs.map f)[i]? = some x) : ∃ y, xs[i]? = some y ∧ x = f y := by
  rw [List.getElem?_map] at h
  cases q : xs[i]? with
  | none => rw [q] at h; cases h
  | some y => rw [q] at h; cases h; exact ⟨y, rfl, rfl⟩
theorem lent_st {n : Nat} {hp : List HOb} {ls : List Le} {ld : Str} {mo : Int} {Q : D → List HOb → Prop} (hl : ls.length ≤ 100) (h : Q (.int (lentv ls ld mo)) hp) : CW (runF tab (n + 1) i_lent [.tup (ls.map encL), .str ld, .int mo] hp) Q := by
  refine r_lent ?_
  unfold b_lent
  decreasing_trivial_pre_omega
  refine lc_ind (fun i acc s => acc = ((ls.take i).filterMap (pick ld mo)).map D.int ∧ s = ⟨[some (.val (.tup (ls.map encL))), some (.val (.str ld)), some (.val (.int mo)), none], hp⟩) ⟨rfl, rfl⟩ ?_ ?_
  · rintro i x acc s hx ⟨rfl, rfl⟩
    obtain ⟨l, hl1, rfl⟩ := get_map hx
    have hz : (List.map D.int (List.filterMap (pick ld mo) (List.take i ls))).length < sizeLine := by
      rw [List.length_map, szl]
      have h1 := List.length_filterMap_le (pick ld mo) (List.take i ls)
      rw [List.length_take] at h1
      omega
    refine lc_turn ?_
    decreasing_trivial_pre_omega
    all_goals first
      | contradiction
      | exact ⟨hz, take_yes hl1 (by assumption) (by assumption), rfl⟩
      | exact ⟨take_no1 hl1 (by assumption), rfl⟩
      | exact ⟨take_no2 hl1 (by assumption), rfl⟩
  · rintro acc s ⟨rfl, rfl⟩
    rw [List.length_map, List.take_length]
    decreasing_trivial_pre_omega
    refine bi_sumN rfl ?_
    decreasing_trivial_pre_omega
    exact h
/-- what a lease takes -/
structure LsOk (m : Int) (rs : List R) (ls : List Le) : Prop where
  ld : ∀ l ∈ ls, ∃ r ∈ rs, r.nm = l.ld
  bo : ∀ l ∈ ls, ∃ r ∈ rs, r.nm = l.bo
  ne : ∀ l ∈ ls, l.ld ≠ l.bo
  mo : ∀ l ∈ ls, 0 ≤ l.mo ∧ l.mo < m
  am : ∀ l ∈ ls, 1 ≤ l.am
  has : ∀ r ∈ rs, ∀ mo : Int, 0 ≤ mo → mo < m → lentv ls r.nm mo ≤ r.dm.getD mo.toNat 0
theorem lentv_add {ls : List Le} {l : Le} {ld : Str} {mo : Int} : lentv (ls ++ [l]) ld mo = lentv ls ld mo + (if l.ld = ld ∧ l.mo = mo then l.am else 0) := by
  unfold lentv
  rw [List.filterMap_append, List.sum_append]
  by_cases h : l.ld = ld ∧ l.mo = mo
  · simp [pick, h]
  · simp [pick, h]
theorem sum_nn : ∀ {xs : List Int}, (∀ x ∈ xs, 0 ≤ x) → 0 ≤ xs.sum
  | [], _ => by simp
  | x :: xs, h => by
    have h1 := h x (by simp)
    have h2 := sum_nn (xs := xs) fun y hy => h y (by simp [hy])
    rw [List.sum_cons]
    omega
theorem lent_pos {ls : List Le} (h : ∀ l ∈ ls, 1 ≤ l.am) (ld : Str) (mo : Int) : 0 ≤ lentv ls ld mo := by
  unfold lentv
  apply sum_nn
  intro x hx
  obtain ⟨l, h1, h2⟩ := List.mem_filterMap.mp hx
  unfold pick at h2
  split at h2
  · cases h2
    have := h l h1
    omega
  · cases h2
theorem dm_get {m : Int} {rs : List R} {r : R} (h : RsOk m rs) (hr : r ∈ rs) {mo : Int} (h0 : 0 ≤ mo) (h1 : mo < m) : (r.dm.map D.int)[mo.toNat]? = some (.int (r.dm.getD mo.toNat 0)) ∧ 0 ≤ r.dm.getD mo.toNat 0 ∧ r.dm.getD mo.toNat 0 < 7 := by
  have hl : mo.toNat < r.dm.length := by
    rw [h.len r hr]
    omega
  have e : r.dm.getD mo.toNat 0 = r.dm[mo.toNat] := by simp [List.getD, hl]
  refine ⟨by rw [List.getElem?_map, List.getElem?_eq_getElem hl, e]; rfl, ?_⟩
  rw [e]
  exact h.dm r hr _ (List.getElem_mem hl)
theorem rname_inj {i j : Nat} (h : rname i = rname j) : i = j := by
  unfold rname at h
  have e := congrArg (fun z : Str => z.cps.toList) h
  have e1 : ∀ k : Nat, (("r" ++ (⟨#[97 + k]⟩ : Str)) : Str).cps.toList = ("r" : Str).cps.toList ++ [97 + k] := fun k => by
    show (("r" : Str).cps ++ #[97 + k]).toList = _
    simp
  have e2 : ("r" : Str).cps.toList ++ [97 + i] = ("r" : Str).cps.toList ++ [97 + j] := by rw [← e1, ← e1]; exact e
  have e3 := List.append_cancel_left e2
  simp at e3
  exact e3
theorem nm_inj {m : Int} {rs : List R} {r r' : R} (h : RsOk m rs) (h1 : r ∈ rs) (h2 : r' ∈ rs) (e : r.nm = r'.nm) : r = r' := by
  obtain ⟨i, hi⟩ := List.mem_iff_getElem?.mp h1
  obtain ⟨j, hj⟩ := List.mem_iff_getElem?.mp h2
  rw [h.nm i r hi, h.nm j r' hj] at e
  have e' := rname_inj e
  subst e'
  rw [hi] at hj
  exact Option.some.inj hj
theorem lsok_add {m : Int} {rs : List R} {ls : List Le} {r1 r2 : R} {mo v : Int} (hr : RsOk m rs) (h : LsOk m rs ls) (h1 : r1 ∈ rs) (h2 : r2 ∈ rs) (hn : ¬ r1.nm = r2.nm) (hm : 0 ≤ mo ∧ mo < m) (hd : r1.dm.getD mo.toNat 0 - lentv ls r1.nm mo > 0) : LsOk m rs (ls ++ [⟨r1.nm, r2.nm, mo, 1 + v % (r1.dm.getD mo.toNat 0 - lentv ls r1.nm mo)⟩]) := by
  have p0 := Int.emod_nonneg v (b := r1.dm.getD mo.toNat 0 - lentv ls r1.nm mo) (by omega)
  have p1 := Int.emod_lt_of_pos v hd
  have mem : ∀ {l : Le} {x : Le}, l ∈ ls ++ [x] → l ∈ ls ∨ l = x := fun {l x} h => by
    rcases List.mem_append.mp h with z | z
    · exact .inl z
    · exact .inr (List.mem_singleton.mp z)
  refine ⟨fun l hl => ?_, fun l hl => ?_, fun l hl => ?_, fun l hl => ?_, fun l hl => ?_, fun r hr' mo' g0 g1 => ?_⟩
  · rcases mem hl with z | rfl
    · exact h.ld l z
    · exact ⟨r1, h1, rfl⟩
  · rcases mem hl with z | rfl
    · exact h.bo l z
    · exact ⟨r2, h2, rfl⟩
  · rcases mem hl with z | rfl
    · exact h.ne l z
    · exact hn
  · rcases mem hl with z | rfl
    · exact h.mo l z
    · exact hm
  · rcases mem hl with z | rfl
    · exact h.am l z
    · show 1 ≤ 1 + v % _
      omega
  · rw [lentv_add]
    have b := h.has r hr' mo' g0 g1
    by_cases z : r1.nm = r.nm ∧ mo = mo'
    · rw [if_pos z]
      obtain ⟨z1, rfl⟩ := z
      obtain rfl := nm_inj hr h1 hr' z1
      show _ + (1 + v % _) ≤ _
      omega
    · rw [if_neg z]
      omega
end L23
end
section
set_option maxRecDepth 100000
set_option maxHeartbeats 1000000
set_option autoImplicit false
namespace L23
open PySem MP
theorem pick_r {rs : List R} {v : Int} (h : 0 < rs.length) : ∃ r ∈ rs, L2.atI (rs.map encR) (v % (rs.length : Int)) = some (encR r) := by
  have q1 : 0 ≤ v % (rs.length : Int) := Int.emod_nonneg _ (by omega)
  have q2 : v % (rs.length : Int) < rs.length := Int.emod_lt_of_pos _ (by omega)
  have hl : (v % (rs.length : Int)).toNat < rs.length := by omega
  exact ⟨rs[(v % (rs.length : Int)).toNat], List.getElem_mem hl, atI_of q1 (by rw [List.getElem?_map, List.getElem?_eq_getElem hl]; rfl)⟩
theorem leases_st {n : Nat} {ds : List Int} {at' m : Int} {sites : D} {rs : List R} {Q : D → List HOb → Prop} (ha : 0 ≤ at') (hm : 1 ≤ m ∧ m ≤ 4) (hs : sites.sol = true) (hr : RsOk m rs) (h0 : 0 < rs.length) (hrl : rs.length ≤ 4)
    (h : ∀ (ls : List Le) (a : Int), LsOk m rs ls → ls.length ≤ 4 → 0 ≤ a → Q (.tup (ls.map encL)) [bx ds a]) : CW (runF tab (n + 2) i_law_leases [.ref 0, .tup [.int m, sites], .tup (rs.map encR), .int 4] [bx ds at']) Q := by
  refine r_law_leases ?_
  unfold b_law_leases
  decreasing_trivial_pre_omega
  refine draw_st ha (by decide) fun v a h1 h2 h3 => ?_
  decreasing_trivial_pre_omega
  refine rg (by omega) ?_
  decreasing_trivial_pre_omega
  refine for_rng (fun i s => ∃ (ls : List Le) (a : Int), LsOk m rs ls ∧ ls.length ≤ i ∧ 0 ≤ a ∧ s = ⟨[some (.val (.ref 0)), some (.val (.tup [.int m, sites])), some (.val (.tup (rs.map encR))), some (.val (.int 4)), some (.own (ls.map encL)), none, none, none, none, none, none], [bx ds a]⟩) ⟨[], a, ⟨by simp, by simp, by simp, by simp, by simp, ?_⟩, Nat.le_refl _, h3, rfl⟩ ?_ ?_
  · intro r hr' mo g0 g1
    exact (dm_get hr hr' g0 g1).2.1
  · rintro i s hi ⟨ls, a, hl, hll, ha', rfl⟩
    decreasing_trivial_pre_omega
    refine draw_st ha' (by decide) fun v1 a1 g1 g2 g3 => ?_
    decreasing_trivial_pre_omega
    refine b_mod (by rw [List.length_map]; omega) ?_
    decreasing_trivial_pre_omega
    rw [List.length_map]
    obtain ⟨r1, hr1, e1⟩ := pick_r (v := v1) h0
    refine x_tup e1 ?_
    decreasing_trivial_pre_omega
    refine draw_st g3 (by decide) fun v2 a2 g4 g5 g6 => ?_
    decreasing_trivial_pre_omega
    refine b_mod (by rw [List.length_map]; omega) ?_
    decreasing_trivial_pre_omega
    rw [List.length_map]
    obtain ⟨r2, hr2, e2⟩ := pick_r (v := v2) h0
    refine x_tup e2 ?_
    decreasing_trivial_pre_omega
    refine draw_st g6 (by decide) fun v3 a3 g7 g8 g9 => ?_
    decreasing_trivial_pre_omega
    refine b_mod (by omega) ?_
    decreasing_trivial_pre_omega
    have q1 : 0 ≤ v3 % m := Int.emod_nonneg _ (by omega)
    have q2 : v3 % m < m := Int.emod_lt_of_pos _ (by omega)
    obtain ⟨d1, d2, d3⟩ := dm_get hr hr1 q1 q2
    refine x_tup (atI_of q1 d1) ?_
    decreasing_trivial_pre_omega
    refine lc_ind (fun k acc s => acc = ((ls.take k).filterMap (pick r1.nm (v3 % m))).map D.int ∧ s = ⟨[some (.val (.ref 0)), some (.val (.tup [.int m, sites])), some (.val (.tup (rs.map encR))), some (.val (.int 4)), some (.lk (ls.map encL)), none, some (.val (encR r1)), some (.val (encR r2)), some (.val (.int (v3 % m))), none, none], [bx ds a3]⟩) ⟨rfl, rfl⟩ ?_ ?_
    · rintro k x acc s hx ⟨rfl, rfl⟩
      obtain ⟨l, hl1, rfl⟩ := get_map hx
      have hz : (List.map D.int (List.filterMap (pick r1.nm (v3 % m)) (List.take k ls))).length < sizeLine := by
        rw [List.length_map, szl]
        have h1 := List.length_filterMap_le (pick r1.nm (v3 % m)) (List.take k ls)
        rw [List.length_take] at h1
        omega
      refine lc_turn ?_
      decreasing_trivial_pre_omega
      all_goals first
        | contradiction
        | exact ⟨hz, take_yes hl1 (by assumption) (by assumption), rfl⟩
        | exact ⟨take_no1 hl1 (by assumption), rfl⟩
        | exact ⟨take_no2 hl1 (by assumption), rfl⟩
    · rintro acc s ⟨rfl, rfl⟩
      rw [List.length_map, List.take_length]
      rw [if_pos trivial, unlock_own rfl (by simp only [List.set_cons_succ, List.set_cons_zero]; exact rfl)]
      decreasing_trivial_pre_omega
      refine bi_sumN rfl ?_
      decreasing_trivial_pre_omega
      all_goals (try contradiction)
      all_goals first
        | exact ⟨ls, a3, hl, by omega, g9, rfl⟩
        | skip
      rename_i hb1 hb2
      refine draw_st g9 (by decide) fun v4 a4 g10 g11 g12 => ?_
      decreasing_trivial_pre_omega
      · rw [List.length_map, szl]; omega
      · refine ⟨ls ++ [⟨r1.nm, r2.nm, v3 % m, 1 + v4 % (r1.dm.getD (v3 % m).toNat 0 - lentv ls r1.nm (v3 % m))⟩], a4, lsok_add hr hl hr1 hr2 ?_ ⟨q1, q2⟩ ?_, by simp; omega, g12, by rw [List.map_append]; rfl⟩
        · assumption
        · unfold lentv
          omega
  · rintro s ⟨ls, a, hl, hll, ha', rfl⟩
    decreasing_trivial_pre_omega
    exact h ls a hl (by omega) ha'
end L23
end
section
set_option maxRecDepth 100000
set_option maxHeartbeats 1000000
set_option autoImplicit false
namespace L23
open PySem MP
theorem get_map' {α : Type} {f : α → D} {xs : List α} {i : Nat} {x : D} (h : (xs.map f)[i]? = some x) : ∃ y, xs[i]? = some y ∧ x = f y := by
  rw [List.getElem?_map] at h
  cases q : xs[i]? with
  | none => rw [q] at h; cases h
  | some y => rw [q] at h; cases h; exact ⟨y, rfl, rfl⟩
theorem rank_st {n : Nat} {hp : List HOb} {m : Int} {rs : List R} {r : R} {i : Nat} {Q : D → List HOb → Prop} (hr : RsOk m rs) (hi : rs[i]? = some r) (h : Q (.int i) hp) : CW (runF tab (n + 1) i_rank_of [.tup (rs.map encR), .str r.nm] hp) Q := by
  refine r_rank_of ?_
  unfold b_rank_of
  decreasing_trivial_pre_omega
  refine for_ind (fun k s => k ≤ i ∧ s = ⟨[some (.val (.tup (rs.map encR))), some (.val (.str r.nm)), none, none], hp⟩) ⟨Nat.zero_le _, rfl⟩ ?_ ?_
  · rintro k x s hx ⟨hk, rfl⟩
    obtain ⟨y, hy, rfl⟩ := enum_get hx
    obtain ⟨r', hr', rfl⟩ : ∃ r', rs[k]? = some r' ∧ y = encR r' := by
      rw [List.getElem?_map] at hy
      cases q : rs[k]? with
      | none => rw [q] at hy; cases hy
      | some z => rw [q] at hy; cases hy; exact ⟨z, rfl, rfl⟩
    decreasing_trivial_pre_omega
    · have e : k = i := by
        rw [hr.nm k r' hr', hr.nm i r hi] at hb
        exact rname_inj hb
      rw [e]
      exact h
    · refine ⟨?_, by first | rfl | trivial⟩
      have e : k ≠ i := fun z => by
        subst z
        rw [hr'] at hi
        cases hi
        exact hb rfl
      omega
  · rintro s ⟨hk, rfl⟩
    have hl := (List.getElem?_eq_some_iff.mp hi).1
    rw [enum_len, List.length_map] at hk
    omega
theorem check_st {n : Nat} {hp : List HOb} {z : Str} {b : Bool} {Q : D → List HOb → Prop} (hb : b = true) (h : Q .non hp) : CW (runF tab (n + 1) i_check [.bl b, .str z] hp) Q := by
  subst hb
  refine r_check ?_
  unfold b_check
  decreasing_trivial_pre_omega
  rw [gc_len rfl]
  exact h
theorem ends_st {n : Nat} {hp : List HOb} {m mo : Int} {sites : D} {rs : List R} {r1 r2 : R} {i1 i2 : Nat} {Q : D → List HOb → Prop} (hs : sites.sol = true) (hr : RsOk m rs) (h1 : rs[i1]? = some r1) (h2 : rs[i2]? = some r2) (hn : r1.nm ≠ r2.nm) (hm : 0 ≤ mo ∧ mo < m) (h : Q .non hp) :
    CW (runF tab (n + 2) i_check_ends [.tup [.int m, sites], .tup (rs.map encR), .str r1.nm, .str r2.nm, .int mo] hp) Q := by
  refine r_check_ends ?_
  unfold b_check_ends
  decreasing_trivial_pre_omega
  refine rank_st hr h1 ?_
  decreasing_trivial_pre_omega
  refine rank_st hr h2 ?_
  decreasing_trivial_pre_omega
  have ne : ¬ (i2 : Int) = (i1 : Int) := fun z => by
    have e : i2 = i1 := by omega
    subst e
    rw [h1] at h2
    cases h2
    exact hn rfl
  refine check_st (by simp [ne]) ?_
  decreasing_trivial_pre_omega
  · refine check_st (by simp [hm.2]) ?_
    decreasing_trivial_pre_omega
    rw [gc_len rfl]
    exact h
  · exact absurd hm.1 (by assumption)
theorem take_lent {ls : List Le} (h : ∀ l ∈ ls, 1 ≤ l.am) (k : Nat) (ld : Str) (mo : Int) : lentv (ls.take k) ld mo ≤ lentv ls ld mo := by
  have e : lentv ls ld mo = lentv (ls.take k) ld mo + lentv (ls.drop k) ld mo := by
    unfold lentv
    rw [← List.sum_append, ← List.filterMap_append, List.take_append_drop]
  have p := lent_pos (ls := ls.drop k) (fun l hl => h l (List.mem_of_mem_drop hl)) ld mo
  omega
theorem am_le {ls : List Le} (h : ∀ l ∈ ls, 1 ≤ l.am) {l : Le} (hl : l ∈ ls) : l.am ≤ lentv ls l.ld l.mo := by
  obtain ⟨k, hk⟩ := List.mem_iff_getElem?.mp hl
  have z := take_lent h (k + 1) l.ld l.mo
  have e : lentv (ls.take (k + 1)) l.ld l.mo = lentv (ls.take k) l.ld l.mo + l.am := by
    unfold lentv
    rw [take_pick hk, List.sum_append]
    have e2 : pick l.ld l.mo l = some l.am := if_pos ⟨rfl, rfl⟩
    rw [e2]
    simp
  have p := lent_pos (ls := ls.take k) (fun l hl => h l (List.mem_of_mem_take hl)) l.ld l.mo
  omega
theorem sl_tup {PD : D → Prop} {xs : List D} {lo hi : Option Int} {s : MSt} (h : PD (.tup (cut xs lo hi))) : ∃ z, slcD (.tup xs) lo hi s = some z ∧ PD z := ⟨_, rfl, h⟩
theorem cut_take {α : Type} {xs : List α} {k : Nat} (h : k ≤ xs.length) : cut xs none (some (k : Int)) = xs.take k := by
  show (xs.drop 0).take ((if (k : Int) < 0 then ((k : Int) + (xs.length : Int)).toNat else min (k : Int).toNat xs.length) - 0) = _
  rw [if_neg (by omega), Int.toNat_natCast, Nat.sub_zero, List.drop_zero, Nat.min_eq_left h]
theorem p_some {k : Int} {P : Option Int → Prop} (h : P (some k)) : ∃ z, part (.int k) = some z ∧ P z := ⟨_, rfl, h⟩
theorem leases_ok_st {n : Nat} {hp : List HOb} {m : Int} {sites : D} {rs : List R} {ls : List Le} {Q : D → List HOb → Prop} (hs : sites.sol = true) (hr : RsOk m rs) (hl : LsOk m rs ls) (hln : ls.length ≤ 4) (h : Q .non hp) :
    CW (runF tab (n + 3) i_check_leases [.tup [.int m, sites], .tup (rs.map encR), .tup (ls.map encL)] hp) Q := by
  refine r_check_leases ?_
  unfold b_check_leases
  decreasing_trivial_pre_omega
  refine for_ind (fun k s => s = ⟨[some (.val (.tup [.int m, sites])), some (.val (.tup (rs.map encR))), some (.val (.tup (ls.map encL))), none, none, none, none, none, none, none], hp⟩) rfl ?_ ?_
  · rintro k x s hx rfl
    obtain ⟨y, hy, rfl⟩ := enum_get hx
    obtain ⟨l, hl1, rfl⟩ := get_map' hy
    have hm := List.mem_of_getElem? hl1
    obtain ⟨r1, hr1, e1⟩ := hl.ld l hm
    obtain ⟨r2, hr2, e2⟩ := hl.bo l hm
    obtain ⟨i1, hi1⟩ := List.mem_iff_getElem?.mp hr1
    obtain ⟨i2, hi2⟩ := List.mem_iff_getElem?.mp hr2
    obtain ⟨g0, g1⟩ := hl.mo l hm
    have ne := hl.ne l hm
    have am := hl.am l hm
    have has := hl.has r1 hr1 l.mo g0 g1
    obtain ⟨d1, d2, d3⟩ := dm_get hr hr1 g0 g1
    rw [← e1, ← e2] at ne
    obtain ⟨ld, bo, mo, a⟩ := l
    dsimp only at e1 e2 g0 g1 ne am has d1 d2 d3
    subst e1 e2
    decreasing_trivial_pre_omega
    refine ends_st hs hr hi1 hi2 ne ⟨g0, g1⟩ ?_
    decreasing_trivial_pre_omega
    · have q := am_le hl.am hm
      dsimp only at q
      refine check_st (by simp; omega) ?_
      decreasing_trivial_pre_omega
      refine rank_st hr hi1 ?_
      decreasing_trivial_pre_omega
      refine x_tup (atI_of (by omega) (by rw [Int.toNat_natCast, List.getElem?_map, hi1]; rfl)) ?_
      decreasing_trivial_pre_omega
      refine x_tup (atI_of g0 d1) ?_
      decreasing_trivial_pre_omega
      refine p_some ?_
      refine sl_tup ?_
      have hk := (List.getElem?_eq_some_iff.mp hl1).1
      have e : cut (ls.map encL) none (some ((k : Int) + 1)) = (ls.take (k + 1)).map encL := by
        rw [List.map_take]
        exact cut_take (k := k + 1) (by rw [List.length_map]; omega)
      rw [e]
      decreasing_trivial_pre_omega
      refine lent_st (by rw [List.length_take]; omega) ?_
      decreasing_trivial_pre_omega
      have tl := take_lent hl.am (k + 1) r1.nm mo
      refine check_st (decide_eq_true (by omega)) ?_
      decreasing_trivial_pre_omega
    · exact absurd am (by assumption)
  · rintro s rfl
    decreasing_trivial_pre_omega
    refine check_st (by simp; omega) ?_
    decreasing_trivial_pre_omega
    rw [gc_len rfl]
    exact h
end L23
end
section
set_option maxRecDepth 100000
set_option maxHeartbeats 1000000
set_option autoImplicit false
namespace L23
open PySem MP
theorem b_rep {PD : D → Prop} {xs : List D} {k : Int} {s : MSt} (h0 : -(2 ^ 63) ≤ k ∧ k < 2 ^ 63 ∧ xs.length * k.toNat ≤ sizeLine) (h : PD (.nw (List.replicate k.toNat xs).flatten)) : ∃ z, binD .Mult (.nw xs) (.int k) s = some z ∧ PD z :=
  ⟨_, if_pos ⟨rfl, h0⟩, h⟩
theorem rep_zero (k : Nat) : (List.replicate k [D.int 0]).flatten = (List.replicate k (0 : Int)).map D.int := by
  induction k with
  | zero => rfl
  | succ k ih =>
    rw [List.replicate_succ, List.replicate_succ, List.flatten_cons, ih, List.map_cons]
    rfl
theorem set_map {xs : List Int} {i : Nat} {v : Int} : (xs.map D.int).set i (.int v) = (xs.set i v).map D.int := by rw [List.map_set]
theorem abc_at {j : Int} (h0 : 0 ≤ j) (h1 : j < 4) : L2.atI ("abcdefghijklmnopqrstuvwxyz" : Str).cps.toList j = some (97 + j.toNat) := by
  have z : j = 0 ∨ j = 1 ∨ j = 2 ∨ j = 3 := by omega
  rcases z with rfl | rfl | rfl | rfl <;> decide +kernel
def leaseR (m : Int) (rs : List R) (k : Nat) (l : Le) (st : Str) : R := ⟨"lease" ++ (⟨#[97 + k]⟩ : Str), st, (List.replicate m.toNat 0).set l.mo.toNat l.am⟩
theorem lright_st {n : Nat} {hp : List HOb} {m : Int} {sites : D} {rs : List R} {ls : List Le} {l : Le} {r2 : R} {k i2 : Nat} {Q : D → List HOb → Prop} (hs : sites.sol = true) (hr : RsOk m rs) (hm : 1 ≤ m ∧ m ≤ 4) (hl : ls[k]? = some l) (hk : k < 4) (hi : rs[i2]? = some r2) (hb : r2.nm = l.bo) (hmo : 0 ≤ l.mo ∧ l.mo < m)
    (h : Q (encR (leaseR m rs k l r2.st)) hp) : CW (runF tab (n + 2) i_lease_right [.tup [.int m, sites], .tup (rs.map encR), .tup (ls.map encL), .int (k : Int)] hp) Q := by
  obtain ⟨ld, bo, mo, a⟩ := l
  dsimp only at hb hmo
  subst hb
  refine r_lease_right ?_
  unfold b_lease_right
  decreasing_trivial_pre_omega
  refine x_tup (atI_of (by omega) (by rw [Int.toNat_natCast, List.getElem?_map, hl]; rfl)) ?_
  decreasing_trivial_pre_omega
  refine b_rep ⟨by omega, by omega, by rw [szl]; show 1 * m.toNat ≤ _; omega⟩ ?_
  rw [rep_zero]
  decreasing_trivial_pre_omega
  refine g_own rfl (ixN_of hmo.1 (by rw [List.length_map, List.length_replicate]; omega)) (by simp only [List.set_cons_succ, List.set_cons_zero]; exact rfl) ?_
  rw [set_map]
  decreasing_trivial_pre_omega
  refine x_str (by decide) (abc_at (by omega) (by omega)) ?_
  decreasing_trivial_pre_omega
  refine rank_st hr hi ?_
  decreasing_trivial_pre_omega
  refine x_tup (atI_of (by omega) (by rw [Int.toNat_natCast, List.getElem?_map, hi]; rfl)) ?_
  decreasing_trivial_pre_omega
  exact h
end L23
end
section
set_option maxRecDepth 100000
set_option maxHeartbeats 1000000
set_option autoImplicit false
namespace L23
open PySem MP
def stOf (rs : List R) (z : Str) : Str := ((rs.filter fun r => r.nm = z).map R.st).headD ""
def lrows (m : Int) (rs : List R) (nm : Str) : Nat → List Le → List R
  | _, [] => []
  | k, l :: r => (if l.ld = nm then [leaseR m rs k l (stOf rs l.bo)] else []) ++ lrows m rs nm (k + 1) r
theorem lrows_app {m : Int} {rs : List R} {nm : Str} {l : Le} : ∀ {k : Nat} {ls : List Le}, lrows m rs nm k (ls ++ [l]) = lrows m rs nm k ls ++ (if l.ld = nm then [leaseR m rs (k + ls.length) l (stOf rs l.bo)] else [])
  | k, [] => by simp [lrows]
  | k, x :: ls => by
    have e : k + 1 + ls.length = k + (x :: ls).length := by simp; omega
    show _ ++ lrows m rs nm (k + 1) (ls ++ [l]) = (_ ++ lrows m rs nm (k + 1) ls) ++ _
    rw [lrows_app, List.append_assoc, e]
theorem lrows_take {m : Int} {rs : List R} {nm : Str} {l : Le} {ls : List Le} {k : Nat} (h : ls[k]? = some l) : lrows m rs nm 0 (ls.take (k + 1)) = lrows m rs nm 0 (ls.take k) ++ (if l.ld = nm then [leaseR m rs k l (stOf rs l.bo)] else []) := by
  have hl := (List.getElem?_eq_some_iff.mp h).1
  have e : ls.take (k + 1) = ls.take k ++ [l] := by rw [List.take_succ, h]; rfl
  have e2 : 0 + (ls.take k).length = k := by rw [List.length_take]; omega
  rw [e, lrows_app, e2]
def leftR (ls : List Le) (r : R) : List Int := r.dm.mapIdx fun (i : Nat) d => d - lentv ls r.nm (i : Int)
def rowsR (m : Int) (rs : List R) (ls : List Le) (r : R) : List R := ⟨r.nm, r.st, leftR ls r⟩ :: lrows m rs r.nm 0 ls
def underv (m : Int) (rs : List R) (ls : List Le) : List R := rs.flatMap (rowsR m rs ls)
theorem st_of {m : Int} {rs : List R} {r : R} (h : RsOk m rs) (hr : r ∈ rs) : stOf rs r.nm = r.st := by
  unfold stOf
  have e : ∀ x ∈ rs.filter (fun q => q.nm = r.nm), x = r := fun x hx => by
    obtain ⟨h1, h2⟩ := List.mem_filter.mp hx
    exact nm_inj h h1 hr (by simpa using h2)
  cases q : rs.filter (fun q => q.nm = r.nm) with
  | nil =>
    have z : r ∈ rs.filter (fun q => q.nm = r.nm) := List.mem_filter.mpr ⟨hr, by simp⟩
    rw [q] at z
    cases z
  | cons x xs =>
    rw [q] at e
    rw [e x (by simp)]
    rfl
end L23
end
section
set_option maxRecDepth 100000
set_option maxHeartbeats 1000000
set_option autoImplicit false
namespace L23
open PySem MP
theorem lrows_len {m : Int} {rs : List R} {nm : Str} : ∀ {k : Nat} {ls : List Le}, (lrows m rs nm k ls).length ≤ ls.length
  | k, [] => by simp [lrows]
  | k, l :: ls => by
    have ih := lrows_len (m := m) (rs := rs) (nm := nm) (k := k + 1) (ls := ls)
    unfold lrows
    rw [List.length_append]
    split <;> simp <;> omega
theorem take_flat {m : Int} {rs : List R} {ls : List Le} {k : Nat} {r : R} (h : rs[k]? = some r) : (rs.take (k + 1)).flatMap (rowsR m rs ls) = (rs.take k).flatMap (rowsR m rs ls) ++ rowsR m rs ls r := by
  rw [List.take_succ, h, List.flatMap_append]
  simp
theorem under_st {n : Nat} {hp : List HOb} {m : Int} {sites : D} {rs : List R} {ls : List Le} {Q : D → List HOb → Prop} (hs : sites.sol = true) (hr : RsOk m rs) (hrl : rs.length ≤ 4) (hm : 1 ≤ m ∧ m ≤ 4) (hl : LsOk m rs ls) (hln : ls.length ≤ 4) (h : Q (.tup ((underv m rs ls).map encR)) hp) :
    CW (runF tab (n + 4) i_under [.tup [.int m, sites], .tup (rs.map encR), .tup (ls.map encL)] hp) Q := by
  refine r_under ?_
  unfold b_under
  decreasing_trivial_pre_omega
  refine leases_ok_st hs hr hl hln ?_
  decreasing_trivial_pre_omega
  refine for_ind (fun k s => ((rs.take k).flatMap (rowsR m rs ls)).length ≤ 5 * k ∧ s = ⟨[some (.val (.tup [.int m, sites])), some (.val (.tup (rs.map encR))), some (.val (.tup (ls.map encL))), some (.own (((rs.take k).flatMap (rowsR m rs ls)).map encR)), none, none, none, none, none, none, none, none], hp⟩) ⟨Nat.le_refl _, rfl⟩ ?_ ?_
  · rintro k x s hx ⟨hk, rfl⟩
    obtain ⟨r, hr1, rfl⟩ := get_map' hx
    have hrm := List.mem_of_getElem? hr1
    decreasing_trivial_pre_omega
    refine lc_ind (fun i acc s => acc = ((leftR ls r).take i).map D.int ∧ s = ⟨[some (.val (.tup [.int m, sites])), some (.val (.tup (rs.map encR))), some (.val (.tup (ls.map encL))), some (.own (((rs.take k).flatMap (rowsR m rs ls)).map encR)), some (.val (.str r.nm)), some (.val (.str r.st)), some (.val (.tup (r.dm.map D.int))), none, none, none, none, none], hp⟩) ⟨rfl, rfl⟩ ?_ ?_
    · rintro i x acc s hx ⟨rfl, rfl⟩
      obtain ⟨y, hy, rfl⟩ := enum_get hx
      obtain ⟨d, hd, rfl⟩ := get_map' hy
      refine lc_turn ?_
      decreasing_trivial_pre_omega
      refine lent_st (by omega) ?_
      decreasing_trivial_pre_omega
      have hd2 := (List.getElem?_eq_some_iff.mp hd).1
      have e : (leftR ls r)[i]? = some (d - lentv ls r.nm (i : Int)) := by
        unfold leftR
        rw [List.getElem?_mapIdx, hd]
        rfl
      have len : r.dm.length ≤ 4 := by rw [hr.len r hrm]; omega
      refine ⟨by rw [List.length_map, List.length_take, szl]; omega, ?_, by first | rfl | trivial⟩
      rw [List.take_succ, e, List.map_append]
      rfl
    · rintro acc s ⟨rfl, rfl⟩
      rw [enum_len, List.length_map]
      have e : (leftR ls r).take r.dm.length = leftR ls r := List.take_of_length_le (by unfold leftR; rw [List.length_mapIdx]; exact Nat.le_refl _)
      rw [e]
      decreasing_trivial_pre_omega
      · have hk4 := (List.getElem?_eq_some_iff.mp hr1).1
        rw [List.length_map, szl]; omega
      · have hk4 := (List.getElem?_eq_some_iff.mp hr1).1
        refine for_ind (fun i s => s = ⟨[some (.val (.tup [.int m, sites])), some (.val (.tup (rs.map encR))), some (.val (.tup (ls.map encL))), some (.own (((rs.take k).flatMap (rowsR m rs ls) ++ ⟨r.nm, r.st, leftR ls r⟩ :: lrows m rs r.nm 0 (ls.take i)).map encR)), some (.val (.str r.nm)), none, none, none, none, none, none, none], hp⟩) ?_ ?_ ?_
        · rw [List.map_append]
          rfl
        · rintro i x s hx rfl
          obtain ⟨y, hy, rfl⟩ := enum_get hx
          obtain ⟨l, hl1, rfl⟩ := get_map' hy
          have hlm := List.mem_of_getElem? hl1
          have hl4 := (List.getElem?_eq_some_iff.mp hl1).1
          obtain ⟨r2, hr2, e2⟩ := hl.bo l hlm
          obtain ⟨i2, hi2⟩ := List.mem_iff_getElem?.mp hr2
          decreasing_trivial_pre_omega
          · refine lright_st hs hr hm hl1 (by omega) hi2 e2 (hl.mo l hlm) ?_
            decreasing_trivial_pre_omega
            · have ll := lrows_len (m := m) (rs := rs) (nm := r.nm) (k := 0) (ls := ls.take i)
              rw [List.length_take] at ll
              rw [List.length_map, List.length_append, List.length_cons, szl]
              omega
            · rw [lrows_take hl1, if_pos (by assumption), ← e2, st_of hr hr2]
              simp
          · rw [lrows_take hl1, if_neg (by assumption), List.append_nil]
        · rintro s rfl
          rw [enum_len, List.length_map, List.take_length]
          decreasing_trivial_pre_omega
          rw [take_flat hr1]
          refine ⟨?_, by first | rfl | trivial⟩
          have ll := lrows_len (m := m) (rs := rs) (nm := r.nm) (k := 0) (ls := ls)
          rw [List.length_append]
          show _ + ((lrows m rs r.nm 0 ls).length + 1) ≤ _
          omega
  · rintro s ⟨hk, rfl⟩
    rw [List.length_map, List.take_length]
    decreasing_trivial_pre_omega
    exact h
end L23
end
section
set_option maxRecDepth 100000
set_option maxHeartbeats 1000000
set_option autoImplicit false
namespace L23
open PySem MP
theorem left_same {ls : List Le} {l : Le} {r : R} (h : ¬ l.ld = r.nm) : leftR (ls ++ [l]) r = leftR ls r := by
  unfold leftR
  apply List.ext_getElem?
  intro i
  rw [List.getElem?_mapIdx, List.getElem?_mapIdx]
  have e : lentv (ls ++ [l]) r.nm (i : Int) = lentv ls r.nm (i : Int) := by
    rw [lentv_add, if_neg fun z => h z.1, Int.add_zero]
  rw [e]
theorem left_step {ls : List Le} {l : Le} {r : R} {v : Int} (h : l.ld = r.nm) (h0 : 0 ≤ l.mo) (hv : (leftR ls r)[l.mo.toNat]? = some v) : leftR (ls ++ [l]) r = (leftR ls r).set l.mo.toNat (v - l.am) := by
  apply List.ext_getElem?
  intro i
  by_cases hi : l.mo.toNat = i
  · subst hi
    rw [List.getElem?_set_self (List.getElem?_eq_some_iff.mp hv).1]
    unfold leftR at hv ⊢
    rw [List.getElem?_mapIdx] at hv ⊢
    cases q : r.dm[l.mo.toNat]? with
    | none => rw [q] at hv; cases hv
    | some d =>
      rw [q] at hv
      have hv' : d - lentv ls r.nm ((l.mo.toNat : Nat) : Int) = v := Option.some.inj hv
      have e : lentv (ls ++ [l]) r.nm ((l.mo.toNat : Nat) : Int) = lentv ls r.nm ((l.mo.toNat : Nat) : Int) + l.am := by
        rw [lentv_add, if_pos ⟨h, by omega⟩]
      show some (d - lentv (ls ++ [l]) r.nm ((l.mo.toNat : Nat) : Int)) = some (v - l.am)
      rw [e, ← hv']
      congr 1
      omega
  · rw [List.getElem?_set_ne hi]
    unfold leftR
    rw [List.getElem?_mapIdx, List.getElem?_mapIdx]
    have e : lentv (ls ++ [l]) r.nm (i : Int) = lentv ls r.nm (i : Int) := by
      rw [lentv_add, if_neg fun z => hi (by omega), Int.add_zero]
    rw [e]
end L23
end
section
set_option maxRecDepth 100000
set_option maxHeartbeats 1000000
set_option autoImplicit false
namespace L23
open PySem MP
theorem left_take {ls : List Le} {l : Le} {k : Nat} (h : ls[k]? = some l) : ls.take (k + 1) = ls.take k ++ [l] := by rw [List.take_succ, h]; rfl
theorem left_len {ls : List Le} {r : R} : (leftR ls r).length = r.dm.length := by
  unfold leftR
  rw [List.length_mapIdx]
theorem left_nil {r : R} : leftR [] r = r.dm := by
  apply List.ext_getElem?
  intro i
  unfold leftR
  rw [List.getElem?_mapIdx]
  cases q : r.dm[i]? with
  | none => rfl
  | some d =>
    show some (d - lentv [] r.nm (i : Int)) = some d
    have e : lentv [] r.nm (i : Int) = 0 := rfl
    rw [e, Int.sub_zero]
theorem b_catON {PD : D → Prop} {sl : List (Option SV)} {hp : List HOb} {i : Nat} {xs ys : List D} (hx : sl[i]? = some (some (.own xs))) (h0 : xs.length + ys.length ≤ sizeLine) (h : PD (.nw (xs ++ ys))) : ∃ z, binD .Add (.sl i) (.nw ys) ⟨sl, hp⟩ = some z ∧ PD z := by
  refine ⟨_, ?_, h⟩
  have e : lview (.sl i) ⟨sl, hp⟩ = some xs := by
    show (Option.bind (sl[i]?.join) svList) = _
    rw [hx]
    rfl
  show (match lview (.sl i) ⟨sl, hp⟩, lview (.nw ys) ⟨sl, hp⟩ with
    | some xs, some ys => if Operator.Add = Operator.Add ∧ xs.length + ys.length ≤ sizeLine then some (D.nw (xs ++ ys)) else none
    | _, _ => none) = _
  rw [e]
  exact if_pos ⟨rfl, h0⟩
theorem b_catNO {PD : D → Prop} {sl : List (Option SV)} {hp : List HOb} {i : Nat} {xs ys : List D} (hx : sl[i]? = some (some (.own ys))) (h0 : xs.length + ys.length ≤ sizeLine) (h : PD (.nw (xs ++ ys))) : ∃ z, binD .Add (.nw xs) (.sl i) ⟨sl, hp⟩ = some z ∧ PD z := by
  refine ⟨_, ?_, h⟩
  have e : lview (.sl i) ⟨sl, hp⟩ = some ys := by
    show (Option.bind (sl[i]?.join) svList) = _
    rw [hx]
    rfl
  show (match lview (.nw xs) ⟨sl, hp⟩, lview (.sl i) ⟨sl, hp⟩ with
    | some xs, some ys => if Operator.Add = Operator.Add ∧ xs.length + ys.length ≤ sizeLine then some (D.nw (xs ++ ys)) else none
    | _, _ => none) = _
  rw [e]
  exact if_pos ⟨rfl, h0⟩
theorem lunder_st {n : Nat} {hp : List HOb} {m : Int} {rs : List R} {ls : List Le} {Q : D → List HOb → Prop} (hr : RsOk m rs) (hrl : rs.length ≤ 4) (hm : 1 ≤ m ∧ m ≤ 4) (hl : LsOk m rs ls) (hln : ls.length ≤ 4) (h : Q (.tup ((underv m rs ls).map encR)) hp) :
    CW (runF tab (n + 1) i_law_under [.tup (rs.map encR), .tup (ls.map encL)] hp) Q := by
  refine r_law_under ?_
  unfold b_law_under
  decreasing_trivial_pre_omega
  refine for_ind (fun k s => ((rs.take k).flatMap (rowsR m rs ls)).length ≤ 5 * k ∧ s = ⟨[some (.val (.tup (rs.map encR))), some (.val (.tup (ls.map encL))), some (.own (((rs.take k).flatMap (rowsR m rs ls)).map encR)), none, none, none, none, none, none, none, none, none, none, none, none, none], hp⟩) ⟨Nat.le_refl _, rfl⟩ ?_ ?_
  · rintro k x s hx ⟨hk, rfl⟩
    obtain ⟨r, hr1, rfl⟩ := get_map' hx
    have hrm := List.mem_of_getElem? hr1
    have hk4 := (List.getElem?_eq_some_iff.mp hr1).1
    decreasing_trivial_pre_omega
    refine rg (by rw [List.length_map]; omega) ?_
    decreasing_trivial_pre_omega
    refine for_rng (fun i s => s = ⟨[some (.val (.tup (rs.map encR))), some (.val (.tup (ls.map encL))), some (.own (((rs.take k).flatMap (rowsR m rs ls)).map encR)), some (.val (.str r.nm)), some (.val (.str r.st)), some (.val (.tup (r.dm.map D.int))), some (.own ((leftR (ls.take i) r).map D.int)), some (.own ((lrows m rs r.nm 0 (ls.take i)).map encR)), none, none, none, none, none, none, none, none], hp⟩) ?_ ?_ ?_
    · rw [show ls.take 0 = [] from rfl, left_nil]
      rfl
    · rintro i s hi rfl
      rw [List.length_map] at hi
      have hi2 : i < ls.length := by omega
      have hl1 := List.getElem?_eq_getElem hi2
      generalize ls[i] = l at hl1
      have hlm := List.mem_of_getElem? hl1
      decreasing_trivial_pre_omega
      refine x_tup (dz := encL l) (atI_of (by omega) (by rw [List.getElem?_map, show (0 + (i : Int)).toNat = i by omega, hl1]; rfl)) ?_
      decreasing_trivial_pre_omega
      · obtain ⟨g0, g1⟩ := hl.mo l hlm
        have hlen : l.mo.toNat < (leftR (ls.take i) r).length := by
          rw [left_len, hr.len r hrm]
          omega
        refine x_own rfl (atI_of g0 (by rw [List.getElem?_map, List.getElem?_eq_getElem hlen]; rfl)) ?_
        decreasing_trivial_pre_omega
        refine g_own rfl (ixN_of g0 (by rw [List.length_map, left_len, hr.len r hrm]; omega)) (by simp only [List.set_cons_succ, List.set_cons_zero]; exact rfl) ?_
        rw [set_map]
        decreasing_trivial_pre_omega
        refine b_rep ⟨by rw [List.length_map, hr.len r hrm]; omega, by rw [List.length_map, hr.len r hrm]; omega, by rw [szl, List.length_map, hr.len r hrm]; show 1 * _ ≤ _; omega⟩ ?_
        rw [rep_zero, List.length_map, hr.len r hrm, Int.toNat_natCast]
        decreasing_trivial_pre_omega
        refine g_own rfl (ixN_of g0 (by rw [List.length_map, List.length_replicate]; omega)) (by simp only [List.set_cons_succ, List.set_cons_zero]; exact rfl) ?_
        rw [set_map]
        decreasing_trivial_pre_omega
        obtain ⟨r2, hr2, e2⟩ := hl.bo l hlm
        refine lc_ind (fun j acc s => acc = ((rs.take j).filter fun q => q.nm = l.bo).map (fun q => D.str q.st) ∧ s = ⟨[some (.val (.tup (rs.map encR))), some (.val (.tup (ls.map encL))), some (.own (((rs.take k).flatMap (rowsR m rs ls)).map encR)), some (.val (.str r.nm)), some (.val (.str r.st)), some (.val (.tup (r.dm.map D.int))), some (.own (((leftR (ls.take i) r).set l.mo.toNat ((leftR (ls.take i) r)[l.mo.toNat] - l.am)).map D.int)), some (.own ((lrows m rs r.nm 0 (ls.take i)).map encR)), some (.val (.int (0 + (i : Int)))), none, some (.val (.str l.bo)), none, none, some (.own (((List.replicate m.toNat 0).set l.mo.toNat l.am).map D.int)), none, none], hp⟩) ⟨rfl, rfl⟩ ?_ ?_
        · rintro j x acc s hx ⟨rfl, rfl⟩
          obtain ⟨q, hq, rfl⟩ := get_map' hx
          have hj := (List.getElem?_eq_some_iff.mp hq).1
          have lf : ((rs.take j).filter fun q => q.nm = l.bo).length ≤ 4 := by
            have := List.length_filter_le (fun q : R => decide (q.nm = l.bo)) (rs.take j)
            rw [List.length_take] at this
            omega
          have et : rs.take (j + 1) = rs.take j ++ [q] := by rw [List.take_succ, hq]; rfl
          refine lc_turn ?_
          decreasing_trivial_pre_omega
          all_goals first
            | contradiction
            | exact ⟨by rw [List.length_map, szl]; omega, by rw [et, List.filter_append, List.map_append]; simp_all, by first | rfl | trivial⟩
            | exact ⟨by rw [et, List.filter_append, List.map_append]; simp_all, by first | rfl | trivial⟩
        · rintro acc s ⟨rfl, rfl⟩
          rw [List.length_map, List.take_length]
          decreasing_trivial_pre_omega
          have hz : L2.atI (((rs.filter fun q => q.nm = l.bo).map fun q => D.str q.st)) 0 = some (D.str (stOf rs l.bo)) := by
            unfold stOf
            cases q : rs.filter (fun q => decide (q.nm = l.bo)) with
            | nil =>
              have z : r2 ∈ rs.filter (fun q => decide (q.nm = l.bo)) := List.mem_filter.mpr ⟨hr2, by simp [e2]⟩
              rw [q] at z
              cases z
            | cons x xs => exact atI_of (by decide) rfl
          refine x_nw hz ?_
          decreasing_trivial_pre_omega
          refine x_abcd (by omega) (by omega) ?_
          decreasing_trivial_pre_omega
          · have ll := lrows_len (m := m) (rs := rs) (nm := r.nm) (k := 0) (ls := ls.take i)
            rw [List.length_take] at ll
            rw [List.length_map, szl]
            omega
          · rw [left_take hl1, left_step (v := (leftR (ls.take i) r)[l.mo.toNat]) hb g0 (List.getElem?_eq_getElem hlen), lrows_app, if_pos hb, List.map_append]
            have e3 : 0 + (ls.take i).length = i := by rw [List.length_take]; omega
            have e4 : (0 + (i : Int)).toNat = i := by omega
            rw [e3, e4]
            rfl
      · rw [left_take hl1, left_same hb, lrows_app, if_neg hb, List.append_nil]
    · rintro s rfl
      rw [List.length_map, Int.sub_zero, Int.toNat_natCast, List.take_length]
      decreasing_trivial_pre_omega
      have ll := lrows_len (m := m) (rs := rs) (nm := r.nm) (k := 0) (ls := ls)
      refine b_catON rfl (by rw [List.length_map, szl]; show _ + 1 ≤ _; omega) ?_
      decreasing_trivial_pre_omega
      refine b_catNO rfl (by rw [List.length_append, List.length_map, List.length_map, szl]; show _ + 1 + _ ≤ _; omega) ?_
      decreasing_trivial_pre_omega
      rw [take_flat hr1]
      refine ⟨?_, ?_⟩
      · rw [List.length_append]
        show _ + ((lrows m rs r.nm 0 ls).length + 1) ≤ _
        omega
      · rw [List.map_append]
        simp [rowsR]
  · rintro s ⟨hk, rfl⟩
    rw [List.length_map, List.take_length]
    decreasing_trivial_pre_omega
    exact h
end L23
end
section
set_option maxRecDepth 100000
set_option maxHeartbeats 1000000
set_option autoImplicit false
namespace L23
open PySem MP
/-- a row that repr writes -/
structure RNice (r : R) : Prop where
  nm : PyData.strOk r.nm = true ∧ r.nm.cps.size ≤ 200
  st : PyData.strOk r.st = true ∧ r.st.cps.size ≤ 200
  len : r.dm.length ≤ 4
  dm : ∀ x ∈ r.dm, x.natAbs < 10 ^ 12
theorem nd_R {r : R} (h : RNice r) : Nd 2 603 (encR r) := by
  refine nd_tup (k := 1) (w := 200) (n := 3) (Nat.le_refl _) ?_
  intro d hd
  simp only [List.mem_cons, List.not_mem_nil, or_false] at hd
  rcases hd with rfl | rfl | rfl
  · exact nd_str h.nm.1 h.nm.2
  · exact nd_str h.st.1 h.st.2
  · exact (nd_ints (k := 0) h.len h.dm).mono (Nat.le_refl _) (by decide)
theorem nd_Rs {rs : List R} (hl : rs.length ≤ 40) (h : ∀ r ∈ rs, RNice r) : Nd 3 (40 * 604) (.tup (rs.map encR)) :=
  nd_tup (by rw [List.length_map]; exact hl) fun d hd => by
    obtain ⟨r, hr, rfl⟩ := List.mem_map.mp hd
    exact nd_R (h r hr)
theorem same_st {n : Nat} {hp : List HOb} {k w : Nat} {xs : List D} {Q : D → List HOb → Prop} (h : Nd k w (.tup xs)) (h1 : k ≤ 64) (h2 : w ≤ 1048576) (hq : Q (.bl true) hp) : CW (runF tab (n + 1) i_law_same [.tup xs, .tup xs] hp) Q := by
  refine r_law_same ?_
  unfold b_law_same
  decreasing_trivial_pre_omega
  refine bi_repT h h1 h2 ?_
  decreasing_trivial_pre_omega
  refine bi_repT h h1 h2 ?_
  decreasing_trivial_pre_omega
  all_goals first
    | exact hq
    | (exfalso; exact hb rfl)
    | skip
theorem site_nice {z : Str} (h : siteName z) : PyData.strOk z = true ∧ z.cps.size ≤ 200 := by
  rcases h with rfl | rfl | rfl | rfl <;> decide +kernel
theorem rname_nice {i : Nat} (h : i < 4) : PyData.strOk (rname i) = true ∧ (rname i).cps.size ≤ 200 := by
  have z : i = 0 ∨ i = 1 ∨ i = 2 ∨ i = 3 := by omega
  rcases z with rfl | rfl | rfl | rfl <;> decide +kernel
theorem lname_nice {i : Nat} (h : i < 4) : PyData.strOk ("lease" ++ (⟨#[97 + i]⟩ : Str)) = true ∧ ("lease" ++ (⟨#[97 + i]⟩ : Str)).cps.size ≤ 200 := by
  have z : i = 0 ∨ i = 1 ∨ i = 2 ∨ i = 3 := by omega
  rcases z with rfl | rfl | rfl | rfl <;> decide +kernel
theorem rs_nice {m : Int} {rs : List R} (h : RsOk m rs) (hm : m ≤ 4) (hl : rs.length ≤ 4) : ∀ r ∈ rs, RNice r := fun r hr => by
  obtain ⟨i, hi⟩ := List.mem_iff_getElem?.mp hr
  have hi4 := (List.getElem?_eq_some_iff.mp hi).1
  refine ⟨?_, site_nice (h.st r hr), by rw [h.len r hr]; omega, fun x hx => ?_⟩
  · rw [h.nm i r hi]
    exact rname_nice (by omega)
  · have := h.dm r hr x hx
    omega
theorem st_site {m : Int} {rs : List R} {z : Str} (h : RsOk m rs) (hz : ∃ r ∈ rs, r.nm = z) : siteName (stOf rs z) := by
  obtain ⟨r, hr, rfl⟩ := hz
  rw [st_of h hr]
  exact h.st r hr
theorem lrows_nice {m : Int} {rs : List R} (h : RsOk m rs) (hm : m ≤ 4) {nm : Str} : ∀ {k : Nat} {ls : List Le}, k + ls.length ≤ 4 → (∀ l ∈ ls, (∃ r ∈ rs, r.nm = l.bo) ∧ 1 ≤ l.am ∧ l.am < 7) → ∀ r ∈ lrows m rs nm k ls, RNice r
  | k, [], _, _, r, hr => by simp [lrows] at hr
  | k, l :: ls, hk, hl, r, hr => by
    have hk2 : k + ls.length + 1 ≤ 4 := hk
    unfold lrows at hr
    rcases List.mem_append.mp hr with z | z
    · split at z
      · rw [List.mem_singleton.mp z]
        obtain ⟨hb, ha, hb2⟩ := hl l (by simp)
        refine ⟨lname_nice (by omega), site_nice (st_site h hb), ?_, fun x hx => ?_⟩
        · show ((List.replicate m.toNat 0).set l.mo.toNat l.am).length ≤ 4
          rw [List.length_set, List.length_replicate]; omega
        · rcases List.mem_or_eq_of_mem_set hx with y | rfl
          · rw [(List.mem_replicate.mp y).2]; decide
          · omega
      · cases z
    · exact lrows_nice h hm (k := k + 1) (ls := ls) (by omega) (fun l' hl' => hl l' (by simp [hl'])) r z
theorem am_lt {m : Int} {rs : List R} {ls : List Le} (h : RsOk m rs) (hl : LsOk m rs ls) {l : Le} (hm : l ∈ ls) : 1 ≤ l.am ∧ l.am < 7 := by
  obtain ⟨r, hr, e⟩ := hl.ld l hm
  have a := am_le hl.am hm
  obtain ⟨b0, b1⟩ := hl.mo l hm
  have c := hl.has r hr l.mo b0 b1
  have d := (dm_get h hr b0 b1).2.2
  rw [e] at c
  have := hl.am l hm
  omega
theorem left_bd {m : Int} {rs : List R} {ls : List Le} (h : RsOk m rs) (hl : LsOk m rs ls) {r : R} (hr : r ∈ rs) : ∀ x ∈ leftR ls r, 0 ≤ x ∧ x < 7 := fun x hx => by
  obtain ⟨i, hi⟩ := List.mem_iff_getElem?.mp hx
  unfold leftR at hi
  rw [List.getElem?_mapIdx] at hi
  cases q : r.dm[i]? with
  | none => rw [q] at hi; cases hi
  | some d =>
    rw [q] at hi
    have e : d - lentv ls r.nm (i : Int) = x := Option.some.inj hi
    have hl2 := (List.getElem?_eq_some_iff.mp q).1
    rw [h.len r hr] at hl2
    have c := hl.has r hr (i : Int) (by omega) (by omega)
    rw [Int.toNat_natCast, List.getD_eq_getElem?_getD, q] at c
    have c' : lentv ls r.nm (i : Int) ≤ d := c
    have p := lent_pos hl.am r.nm (i : Int)
    have d7 := h.dm r hr d (List.mem_of_getElem? q)
    omega
theorem under_nice {m : Int} {rs : List R} {ls : List Le} (h : RsOk m rs) (hl : LsOk m rs ls) (hm : m ≤ 4) (hrl : rs.length ≤ 4) (hll : ls.length ≤ 4) : ∀ r ∈ underv m rs ls, RNice r := fun r hr => by
  obtain ⟨q, hq, hr⟩ := List.mem_flatMap.mp hr
  rcases List.mem_cons.mp hr with rfl | z
  · have n := rs_nice h hm hrl q hq
    refine ⟨n.nm, n.st, ?_, fun x hx => ?_⟩
    · show (leftR ls q).length ≤ 4
      rw [left_len, h.len q hq]; omega
    · have := left_bd h hl hq x hx
      omega
  · exact lrows_nice h hm (by omega) (fun l hl' => ⟨hl.bo l hl', am_lt h hl hl'⟩) r z
theorem under_len {m : Int} {rs : List R} {ls : List Le} (hrl : rs.length ≤ 4) (hll : ls.length ≤ 4) : (underv m rs ls).length ≤ 40 := by
  have go : ∀ xs : List R, (xs.flatMap (rowsR m rs ls)).length ≤ 5 * xs.length := by
    intro xs
    induction xs with
    | nil => exact Nat.le_refl _
    | cons x xs ih =>
      rw [List.flatMap_cons, List.length_append, List.length_cons]
      have ll := lrows_len (m := m) (rs := rs) (nm := x.nm) (k := 0) (ls := ls)
      have e : (rowsR m rs ls x).length = (lrows m rs x.nm 0 ls).length + 1 := rfl
      omega
  have := go rs
  unfold underv
  omega
theorem under_nil {m : Int} {rs : List R} : underv m rs [] = rs := by
  have e : ∀ r : R, rowsR m rs [] r = [r] := fun r => by
    show [(⟨r.nm, r.st, leftR [] r⟩ : R)] = [r]
    rw [left_nil]
  have go : ∀ xs : List R, xs.flatMap (rowsR m rs []) = xs := by
    intro xs
    induction xs with
    | nil => rfl
    | cons x xs ih => rw [List.flatMap_cons, ih, e]; rfl
  exact go rs
end L23
end
section
set_option maxRecDepth 100000
set_option maxHeartbeats 1000000
set_option autoImplicit false
namespace L23
open PySem MP
theorem run_ok (ns : List Int) (h : ns.length ≤ 63) : ∃ hp, runF tab 30 i_law [.scr ns] [] = .ok (.bl true) hp := by
  have w : CW (runF tab (29 + 1) i_law [.scr ns] []) (fun d hp => d = .bl true) := by
    refine r_law ?_
    unfold b_law
    decreasing_trivial_pre_omega
    refine digits_st fun ds => ?_
    decreasing_trivial_pre_omega
    refine basin_st (by decide) fun m S a m1 m4 hS hS4 hok ha => ?_
    decreasing_trivial_pre_omega
    refine rights_st ha (by omega) hok hS hS4 fun rs a2 hr hl2 hl4 ha2 => ?_
    decreasing_trivial_pre_omega
    have hrn := nd_Rs (by omega) (rs_nice hr m4 hl4)
    refine bi_repT hrn (by decide) (by decide) ?_
    decreasing_trivial_pre_omega
    refine for_rng (fun i s => ∃ a, 0 ≤ a ∧ s = ⟨[none, some (.val (.ref 0)), some (.val (.tup [.int m, .tup (S.map encS)])), some (.val (.tup (rs.map encR))), some (.val (.str (D.tup (rs.map encR)).py.shown)), none, none], [bx ds a]⟩) ⟨a2, ha2, rfl⟩ ?_ ?_
    · rintro i s hi ⟨a3, ha3, rfl⟩
      decreasing_trivial_pre_omega
      refine leases_st ha3 ⟨m1, m4⟩ rfl hr (by omega) hl4 fun ls a4 hls hll ha4 => ?_
      decreasing_trivial_pre_omega
      refine under_st rfl hr hl4 ⟨m1, m4⟩ hls hll ?_
      decreasing_trivial_pre_omega
      refine lunder_st hr hl4 ⟨m1, m4⟩ hls hll ?_
      decreasing_trivial_pre_omega
      refine same_st (nd_Rs (under_len hl4 hll) (under_nice hr hls m4 hl4 hll)) (by decide) (by decide) ?_
      decreasing_trivial_pre_omega
      rw [if_pos (show ((!true) == false) = true from rfl)]
      decreasing_trivial_pre_omega
      refine bi_repT hrn (by decide) (by decide) ?_
      decreasing_trivial_pre_omega
      all_goals first
        | exact absurd rfl hb
        | exact ⟨a4, ha4, rfl⟩
        | skip
    · rintro s ⟨a3, ha3, rfl⟩
      decreasing_trivial_pre_omega
      refine under_st (ls := []) rfl hr hl4 ⟨m1, m4⟩ ⟨by simp, by simp, by simp, by simp, by simp, ?_⟩ (by decide) ?_
      · intro r hr' mo g0 g1
        exact (dm_get hr hr' g0 g1).2.1
      · rw [under_nil]
        decreasing_trivial_pre_omega
        refine same_st hrn (by decide) (by decide) ?_
        decreasing_trivial_pre_omega
        exact fin_bl fun hp => rfl
  obtain ⟨d, hp, e, rfl⟩ := w.get
  exact ⟨hp, e⟩
end L23
end
section
set_option maxRecDepth 100000
set_option maxHeartbeats 1000000
set_option autoImplicit false
namespace L23
open PySem MP L2
def sg : Sg := ⟨[("AMOUNT_MOST", (.int 99)), ("LEASES_MOST", (.int 4)), ("LETTERS", (.str "abcdefghijklmnopqrstuvwxyz"))], [(i_check, "check"), (i_rank_of, "rank_of"), (i_check_ends, "check_ends"), (i_lent, "lent"), (i_check_leases, "check_leases"), (i_lease_right, "lease_right"), (i_under, "under"), (i_law_cell, "_law_cell"), (i_law_digits, "_law_digits"), (i_law_draw, "_law_draw"), (i_law_same, "_law_same"), (i_law_basin, "_law_basin"), (i_law_demands, "_law_demands"), (i_law_more_rights, "_law_more_rights"), (i_law_under, "_law_under"), (i_law_leases, "_law_leases"), (i_law, "law")], ["enumerate", "int", "len", "list", "range", "repr", "sum", "tuple"]⟩
def top (i : Nat) : Stmt := PySem.Challenge.pw_heldwater_k23_lea_rights_under_leases.main.body.getD i (.Pass ⟨0, 0, 0, 0⟩)
abbrev s_check : Stmt := top 7
def n_check : List Str := ["holds", "reason"]
theorem c_check : chkSs sg b_check ⟨n_check, defScope s_check, fun _ => true⟩ (defBody s_check) = true := by decide +kernel
theorem sc_check : FnScope n_check ["holds", "reason"] (defScope s_check) := ⟨rfl, rfl, rfl, by decide +kernel, rfl, by decide +kernel, by decide +kernel⟩
abbrev s_rank_of : Stmt := top 8
def n_rank_of : List Str := ["rights", "name", "number", "right"]
theorem c_rank_of : chkSs sg b_rank_of ⟨n_rank_of, defScope s_rank_of, fun _ => true⟩ (defBody s_rank_of) = true := by decide +kernel
theorem sc_rank_of : FnScope n_rank_of ["rights", "name"] (defScope s_rank_of) := ⟨rfl, rfl, rfl, by decide +kernel, rfl, by decide +kernel, by decide +kernel⟩
abbrev s_check_ends : Stmt := top 9
def n_check_ends : List Str := ["basin", "rights", "lender", "borrower", "month", "one"]
theorem c_check_ends : chkSs sg b_check_ends ⟨n_check_ends, defScope s_check_ends, fun _ => true⟩ (defBody s_check_ends) = true := by decide +kernel
theorem sc_check_ends : FnScope n_check_ends ["basin", "rights", "lender", "borrower", "month"] (defScope s_check_ends) := ⟨rfl, rfl, rfl, by decide +kernel, rfl, by decide +kernel, by decide +kernel⟩
abbrev s_lent : Stmt := top 10
def n_lent : List Str := ["leases", "lender", "month", "lease"]
theorem c_lent : chkSs sg b_lent ⟨n_lent, defScope s_lent, fun _ => true⟩ (defBody s_lent) = true := by decide +kernel
theorem sc_lent : FnScope n_lent ["leases", "lender", "month"] (defScope s_lent) := ⟨rfl, rfl, rfl, by decide +kernel, rfl, by decide +kernel, by decide +kernel⟩
abbrev s_check_leases : Stmt := top 11
def n_check_leases : List Str := ["basin", "rights", "leases", "at", "lease", "has", "lender", "borrower", "month", "amount"]
theorem c_check_leases : chkSs sg b_check_leases ⟨n_check_leases, defScope s_check_leases, fun _ => true⟩ (defBody s_check_leases) = true := by decide +kernel
theorem sc_check_leases : FnScope n_check_leases ["basin", "rights", "leases"] (defScope s_check_leases) := ⟨rfl, rfl, rfl, by decide +kernel, rfl, by decide +kernel, by decide +kernel⟩
abbrev s_lease_right : Stmt := top 12
def n_lease_right : List Str := ["basin", "rights", "leases", "at", "_", "borrower", "month", "amount", "demands"]
theorem c_lease_right : chkSs sg b_lease_right ⟨n_lease_right, defScope s_lease_right, fun _ => true⟩ (defBody s_lease_right) = true := by decide +kernel
theorem sc_lease_right : FnScope n_lease_right ["basin", "rights", "leases", "at"] (defScope s_lease_right) := ⟨rfl, rfl, rfl, by decide +kernel, rfl, by decide +kernel, by decide +kernel⟩
abbrev s_under : Stmt := top 13
def n_under : List Str := ["basin", "rights", "leases", "found", "name", "site", "demands", "left", "at", "lease", "month", "demand"]
theorem c_under : chkSs sg b_under ⟨n_under, defScope s_under, fun _ => true⟩ (defBody s_under) = true := by decide +kernel
theorem sc_under : FnScope n_under ["basin", "rights", "leases"] (defScope s_under) := ⟨rfl, rfl, rfl, by decide +kernel, rfl, by decide +kernel, by decide +kernel⟩
abbrev s_law_cell : Stmt := top 15
def n_law_cell : List Str := ["_law_script", "_law_k"]
theorem c_law_cell : chkSs sg b_law_cell ⟨n_law_cell, defScope s_law_cell, fun _ => true⟩ (defBody s_law_cell) = true := by decide +kernel
theorem sc_law_cell : FnScope n_law_cell ["_law_script", "_law_k"] (defScope s_law_cell) := ⟨rfl, rfl, rfl, by decide +kernel, rfl, by decide +kernel, by decide +kernel⟩
abbrev s_law_digits : Stmt := top 16
def n_law_digits : List Str := ["_law_script", "_law_first", "_law_last", "_law_digits_here", "_law_k", "_law_cell_here", "_law_place", "_law_seed"]
theorem c_law_digits : chkSs sg b_law_digits ⟨n_law_digits, defScope s_law_digits, fun _ => true⟩ (defBody s_law_digits) = true := by decide +kernel
theorem sc_law_digits : FnScope n_law_digits ["_law_script", "_law_first", "_law_last"] (defScope s_law_digits) := ⟨rfl, rfl, rfl, by decide +kernel, rfl, by decide +kernel, by decide +kernel⟩
abbrev s_law_draw : Stmt := top 17
def n_law_draw : List Str := ["_law_box", "_law_many", "_law_at"]
theorem c_law_draw : chkSs sg b_law_draw ⟨n_law_draw, defScope s_law_draw, fun _ => true⟩ (defBody s_law_draw) = true := by decide +kernel
theorem sc_law_draw : FnScope n_law_draw ["_law_box", "_law_many"] (defScope s_law_draw) := ⟨rfl, rfl, rfl, by decide +kernel, rfl, by decide +kernel, by decide +kernel⟩
abbrev s_law_same : Stmt := top 18
def n_law_same : List Str := ["_law_actual", "_law_due"]
theorem c_law_same : chkSs sg b_law_same ⟨n_law_same, defScope s_law_same, fun _ => true⟩ (defBody s_law_same) = true := by decide +kernel
theorem sc_law_same : FnScope n_law_same ["_law_actual", "_law_due"] (defScope s_law_same) := ⟨rfl, rfl, rfl, by decide +kernel, rfl, by decide +kernel, by decide +kernel⟩
abbrev s_law_basin : Stmt := top 19
def n_law_basin : List Str := ["_law_box", "_law_many", "_law_months", "_law_sites", "_law_k", "_law_other", "_law_travel", "_law_reach", "_law_room", "_law_held", "_law_m"]
theorem c_law_basin : chkSs sg b_law_basin ⟨n_law_basin, defScope s_law_basin, fun _ => true⟩ (defBody s_law_basin) = true := by decide +kernel
theorem sc_law_basin : FnScope n_law_basin ["_law_box"] (defScope s_law_basin) := ⟨rfl, rfl, rfl, by decide +kernel, rfl, by decide +kernel, by decide +kernel⟩
abbrev s_law_demands : Stmt := top 20
def n_law_demands : List Str := ["_law_box", "_law_months", "_law_m"]
theorem c_law_demands : chkSs sg b_law_demands ⟨n_law_demands, defScope s_law_demands, fun _ => true⟩ (defBody s_law_demands) = true := by decide +kernel
theorem sc_law_demands : FnScope n_law_demands ["_law_box", "_law_months"] (defScope s_law_demands) := ⟨rfl, rfl, rfl, by decide +kernel, rfl, by decide +kernel, by decide +kernel⟩
abbrev s_law_more_rights : Stmt := top 21
def n_law_more_rights : List Str := ["_law_box", "_law_basin_here", "_law_names", "_law_site", "_law_found", "_law_k"]
theorem c_law_more_rights : chkSs sg b_law_more_rights ⟨n_law_more_rights, defScope s_law_more_rights, fun _ => true⟩ (defBody s_law_more_rights) = true := by decide +kernel
theorem sc_law_more_rights : FnScope n_law_more_rights ["_law_box", "_law_basin_here"] (defScope s_law_more_rights) := ⟨rfl, rfl, rfl, by decide +kernel, rfl, by decide +kernel, by decide +kernel⟩
abbrev s_law_under : Stmt := top 22
def n_law_under : List Str := ["_law_rights", "_law_leases_here", "_law_found", "_law_name", "_law_site", "_law_demands_here", "_law_left", "_law_more", "_law_at", "_law_lender", "_law_borrower", "_law_month", "_law_amount", "_law_row", "_law_place", "_law_right"]
theorem c_law_under : chkSs sg b_law_under ⟨n_law_under, defScope s_law_under, fun _ => true⟩ (defBody s_law_under) = true := by decide +kernel
theorem sc_law_under : FnScope n_law_under ["_law_rights", "_law_leases_here"] (defScope s_law_under) := ⟨rfl, rfl, rfl, by decide +kernel, rfl, by decide +kernel, by decide +kernel⟩
abbrev s_law_leases : Stmt := top 23
def n_law_leases : List Str := ["_law_box", "_law_basin_here", "_law_rights", "_law_most", "_law_found", "_law_turn", "_law_one", "_law_other", "_law_month", "_law_has", "_law_lease"]
theorem c_law_leases : chkSs sg b_law_leases ⟨n_law_leases, defScope s_law_leases, fun _ => true⟩ (defBody s_law_leases) = true := by decide +kernel
theorem sc_law_leases : FnScope n_law_leases ["_law_box", "_law_basin_here", "_law_rights", "_law_most"] (defScope s_law_leases) := ⟨rfl, rfl, rfl, by decide +kernel, rfl, by decide +kernel, by decide +kernel⟩
abbrev s_law : Stmt := top 24
def n_law : List Str := ["_law_script", "_law_box", "_law_basin_here", "_law_rights", "_law_kept", "_law_turn", "_law_leases_here"]
theorem c_law : chkSs sg b_law ⟨n_law, defScope s_law, fun _ => true⟩ (defBody s_law) = true := by decide +kernel
theorem sc_law : FnScope n_law ["_law_script"] (defScope s_law) := ⟨rfl, rfl, rfl, by decide +kernel, rfl, by decide +kernel, by decide +kernel⟩
end L23
end
section
set_option maxRecDepth 100000
set_option maxHeartbeats 1000000
set_option autoImplicit false
namespace L23
open PySem MP L2
theorem bd_check (kV doc pm : Value) (an : Option Addr) (cdv ct : Value) (us : List Value) (hl : us.length = (["holds", "reason"] : List Str).length) : bindArgs (PySem.W.fnOf "check" "check" (defArgs s_check) (defBody s_check) (defScope s_check) .none kV doc pm an cdv ct) ⟨us, []⟩ = pure ((["holds", "reason"] : List Str).zip us) := match us, hl with | [_, _], _ => rfl
theorem bd_rank_of (kV doc pm : Value) (an : Option Addr) (cdv ct : Value) (us : List Value) (hl : us.length = (["rights", "name"] : List Str).length) : bindArgs (PySem.W.fnOf "rank_of" "rank_of" (defArgs s_rank_of) (defBody s_rank_of) (defScope s_rank_of) .none kV doc pm an cdv ct) ⟨us, []⟩ = pure ((["rights", "name"] : List Str).zip us) := match us, hl with | [_, _], _ => rfl
theorem bd_check_ends (kV doc pm : Value) (an : Option Addr) (cdv ct : Value) (us : List Value) (hl : us.length = (["basin", "rights", "lender", "borrower", "month"] : List Str).length) : bindArgs (PySem.W.fnOf "check_ends" "check_ends" (defArgs s_check_ends) (defBody s_check_ends) (defScope s_check_ends) .none kV doc pm an cdv ct) ⟨us, []⟩ = pure ((["basin", "rights", "lender", "borrower", "month"] : List Str).zip us) := match us, hl with | [_, _, _, _, _], _ => rfl
theorem bd_lent (kV doc pm : Value) (an : Option Addr) (cdv ct : Value) (us : List Value) (hl : us.length = (["leases", "lender", "month"] : List Str).length) : bindArgs (PySem.W.fnOf "lent" "lent" (defArgs s_lent) (defBody s_lent) (defScope s_lent) .none kV doc pm an cdv ct) ⟨us, []⟩ = pure ((["leases", "lender", "month"] : List Str).zip us) := match us, hl with | [_, _, _], _ => rfl
theorem bd_check_leases (kV doc pm : Value) (an : Option Addr) (cdv ct : Value) (us : List Value) (hl : us.length = (["basin", "rights", "leases"] : List Str).length) : bindArgs (PySem.W.fnOf "check_leases" "check_leases" (defArgs s_check_leases) (defBody s_check_leases) (defScope s_check_leases) .none kV doc pm an cdv ct) ⟨us, []⟩ = pure ((["basin", "rights", "leases"] : List Str).zip us) := match us, hl with | [_, _, _], _ => rfl
theorem bd_lease_right (kV doc pm : Value) (an : Option Addr) (cdv ct : Value) (us : List Value) (hl : us.length = (["basin", "rights", "leases", "at"] : List Str).length) : bindArgs (PySem.W.fnOf "lease_right" "lease_right" (defArgs s_lease_right) (defBody s_lease_right) (defScope s_lease_right) .none kV doc pm an cdv ct) ⟨us, []⟩ = pure ((["basin", "rights", "leases", "at"] : List Str).zip us) := match us, hl with | [_, _, _, _], _ => rfl
theorem bd_under (kV doc pm : Value) (an : Option Addr) (cdv ct : Value) (us : List Value) (hl : us.length = (["basin", "rights", "leases"] : List Str).length) : bindArgs (PySem.W.fnOf "under" "under" (defArgs s_under) (defBody s_under) (defScope s_under) .none kV doc pm an cdv ct) ⟨us, []⟩ = pure ((["basin", "rights", "leases"] : List Str).zip us) := match us, hl with | [_, _, _], _ => rfl
theorem bd_law_cell (kV doc pm : Value) (an : Option Addr) (cdv ct : Value) (us : List Value) (hl : us.length = (["_law_script", "_law_k"] : List Str).length) : bindArgs (PySem.W.fnOf "_law_cell" "_law_cell" (defArgs s_law_cell) (defBody s_law_cell) (defScope s_law_cell) .none kV doc pm an cdv ct) ⟨us, []⟩ = pure ((["_law_script", "_law_k"] : List Str).zip us) := match us, hl with | [_, _], _ => rfl
theorem bd_law_digits (kV doc pm : Value) (an : Option Addr) (cdv ct : Value) (us : List Value) (hl : us.length = (["_law_script", "_law_first", "_law_last"] : List Str).length) : bindArgs (PySem.W.fnOf "_law_digits" "_law_digits" (defArgs s_law_digits) (defBody s_law_digits) (defScope s_law_digits) .none kV doc pm an cdv ct) ⟨us, []⟩ = pure ((["_law_script", "_law_first", "_law_last"] : List Str).zip us) := match us, hl with | [_, _, _], _ => rfl
theorem bd_law_draw (kV doc pm : Value) (an : Option Addr) (cdv ct : Value) (us : List Value) (hl : us.length = (["_law_box", "_law_many"] : List Str).length) : bindArgs (PySem.W.fnOf "_law_draw" "_law_draw" (defArgs s_law_draw) (defBody s_law_draw) (defScope s_law_draw) .none kV doc pm an cdv ct) ⟨us, []⟩ = pure ((["_law_box", "_law_many"] : List Str).zip us) := match us, hl with | [_, _], _ => rfl
theorem bd_law_same (kV doc pm : Value) (an : Option Addr) (cdv ct : Value) (us : List Value) (hl : us.length = (["_law_actual", "_law_due"] : List Str).length) : bindArgs (PySem.W.fnOf "_law_same" "_law_same" (defArgs s_law_same) (defBody s_law_same) (defScope s_law_same) .none kV doc pm an cdv ct) ⟨us, []⟩ = pure ((["_law_actual", "_law_due"] : List Str).zip us) := match us, hl with | [_, _], _ => rfl
theorem bd_law_basin (kV doc pm : Value) (an : Option Addr) (cdv ct : Value) (us : List Value) (hl : us.length = (["_law_box"] : List Str).length) : bindArgs (PySem.W.fnOf "_law_basin" "_law_basin" (defArgs s_law_basin) (defBody s_law_basin) (defScope s_law_basin) .none kV doc pm an cdv ct) ⟨us, []⟩ = pure ((["_law_box"] : List Str).zip us) := match us, hl with | [_], _ => rfl
theorem bd_law_demands (kV doc pm : Value) (an : Option Addr) (cdv ct : Value) (us : List Value) (hl : us.length = (["_law_box", "_law_months"] : List Str).length) : bindArgs (PySem.W.fnOf "_law_demands" "_law_demands" (defArgs s_law_demands) (defBody s_law_demands) (defScope s_law_demands) .none kV doc pm an cdv ct) ⟨us, []⟩ = pure ((["_law_box", "_law_months"] : List Str).zip us) := match us, hl with | [_, _], _ => rfl
theorem bd_law_more_rights (kV doc pm : Value) (an : Option Addr) (cdv ct : Value) (us : List Value) (hl : us.length = (["_law_box", "_law_basin_here"] : List Str).length) : bindArgs (PySem.W.fnOf "_law_more_rights" "_law_more_rights" (defArgs s_law_more_rights) (defBody s_law_more_rights) (defScope s_law_more_rights) .none kV doc pm an cdv ct) ⟨us, []⟩ = pure ((["_law_box", "_law_basin_here"] : List Str).zip us) := match us, hl with | [_, _], _ => rfl
theorem bd_law_under (kV doc pm : Value) (an : Option Addr) (cdv ct : Value) (us : List Value) (hl : us.length = (["_law_rights", "_law_leases_here"] : List Str).length) : bindArgs (PySem.W.fnOf "_law_under" "_law_under" (defArgs s_law_under) (defBody s_law_under) (defScope s_law_under) .none kV doc pm an cdv ct) ⟨us, []⟩ = pure ((["_law_rights", "_law_leases_here"] : List Str).zip us) := match us, hl with | [_, _], _ => rfl
theorem bd_law_leases (kV doc pm : Value) (an : Option Addr) (cdv ct : Value) (us : List Value) (hl : us.length = (["_law_box", "_law_basin_here", "_law_rights", "_law_most"] : List Str).length) : bindArgs (PySem.W.fnOf "_law_leases" "_law_leases" (defArgs s_law_leases) (defBody s_law_leases) (defScope s_law_leases) .none kV doc pm an cdv ct) ⟨us, []⟩ = pure ((["_law_box", "_law_basin_here", "_law_rights", "_law_most"] : List Str).zip us) := match us, hl with | [_, _, _, _], _ => rfl
theorem bd_law (kV doc pm : Value) (an : Option Addr) (cdv ct : Value) (us : List Value) (hl : us.length = (["_law_script"] : List Str).length) : bindArgs (PySem.W.fnOf "law" "law" (defArgs s_law) (defBody s_law) (defScope s_law) .none kV doc pm an cdv ct) ⟨us, []⟩ = pure ((["_law_script"] : List Str).zip us) := match us, hl with | [_], _ => rfl
theorem all_mk {P : Program} {w : World} {K : PySem.W.Frag} {h : Heap} {mg : Str → Option Value} (X : K.In h) (G : h.Ns mainGlobals mg) {zt0 zt1 zt2 : Tok}
    {fa0 : Addr} {od0 an0 : Option Addr} {sl0 : Array (Option Value)} {oc0 kV0 dc0 pm0 cd0 ct0 : Value} {fa1 : Addr} {od1 an1 : Option Addr} {sl1 : Array (Option Value)} {oc1 kV1 dc1 pm1 cd1 ct1 : Value} {fa2 : Addr} {od2 an2 : Option Addr} {sl2 : Array (Option Value)} {oc2 kV2 dc2 pm2 cd2 ct2 : Value} {fa3 : Addr} {od3 an3 : Option Addr} {sl3 : Array (Option Value)} {oc3 kV3 dc3 pm3 cd3 ct3 : Value} {fa4 : Addr} {od4 an4 : Option Addr} {sl4 : Array (Option Value)} {oc4 kV4 dc4 pm4 cd4 ct4 : Value} {fa5 : Addr} {od5 an5 : Option Addr} {sl5 : Array (Option Value)} {oc5 kV5 dc5 pm5 cd5 ct5 : Value} {fa6 : Addr} {od6 an6 : Option Addr} {sl6 : Array (Option Value)} {oc6 kV6 dc6 pm6 cd6 ct6 : Value} {fa7 : Addr} {od7 an7 : Option Addr} {sl7 : Array (Option Value)} {oc7 kV7 dc7 pm7 cd7 ct7 : Value} {fa8 : Addr} {od8 an8 : Option Addr} {sl8 : Array (Option Value)} {oc8 kV8 dc8 pm8 cd8 ct8 : Value} {fa9 : Addr} {od9 an9 : Option Addr} {sl9 : Array (Option Value)} {oc9 kV9 dc9 pm9 cd9 ct9 : Value} {fa10 : Addr} {od10 an10 : Option Addr} {sl10 : Array (Option Value)} {oc10 kV10 dc10 pm10 cd10 ct10 : Value} {fa11 : Addr} {od11 an11 : Option Addr} {sl11 : Array (Option Value)} {oc11 kV11 dc11 pm11 cd11 ct11 : Value} {fa12 : Addr} {od12 an12 : Option Addr} {sl12 : Array (Option Value)} {oc12 kV12 dc12 pm12 cd12 ct12 : Value} {fa13 : Addr} {od13 an13 : Option Addr} {sl13 : Array (Option Value)} {oc13 kV13 dc13 pm13 cd13 ct13 : Value} {fa14 : Addr} {od14 an14 : Option Addr} {sl14 : Array (Option Value)} {oc14 kV14 dc14 pm14 cd14 ct14 : Value} {fa15 : Addr} {od15 an15 : Option Addr} {sl15 : Array (Option Value)} {oc15 kV15 dc15 pm15 cd15 ct15 : Value} {fa16 : Addr} {od16 an16 : Option Addr} {sl16 : Array (Option Value)} {oc16 kV16 dc16 pm16 cd16 ct16 : Value}
    (z0 : PySem.W.nsIn K mainGlobals "AMOUNT_MOST" = some (some (Value.int 99 zt0)))
    (z1 : PySem.W.nsIn K mainGlobals "LEASES_MOST" = some (some (Value.int 4 zt1)))
    (z2 : PySem.W.nsIn K mainGlobals "LETTERS" = some (some (Value.str "abcdefghijklmnopqrstuvwxyz" zt2)))
    (y0 : PySem.W.nsIn K mainGlobals "enumerate" = some none)
    (y1 : PySem.W.nsIn K mainGlobals "int" = some none)
    (y2 : PySem.W.nsIn K mainGlobals "len" = some none)
    (y3 : PySem.W.nsIn K mainGlobals "list" = some none)
    (y4 : PySem.W.nsIn K mainGlobals "range" = some none)
    (y5 : PySem.W.nsIn K mainGlobals "repr" = some none)
    (y6 : PySem.W.nsIn K mainGlobals "sum" = some none)
    (y7 : PySem.W.nsIn K mainGlobals "tuple" = some none)
    (a0 : PySem.W.nsIn K mainGlobals "check" = some (some (.ref fa0)))
    (l0 : K.lookup fa0 = some ⟨oc0, od0, .func (PySem.W.fnOf "check" "check" (defArgs s_check) (defBody s_check) (defScope s_check) .none kV0 dc0 pm0 an0 cd0 ct0), sl0⟩)
    (c0 : PySem.W.codeIn K cd0 "check" = true) (k0 : PySem.W.keepIn K (.ref fa0) = true)
    (a1 : PySem.W.nsIn K mainGlobals "rank_of" = some (some (.ref fa1)))
    (l1 : K.lookup fa1 = some ⟨oc1, od1, .func (PySem.W.fnOf "rank_of" "rank_of" (defArgs s_rank_of) (defBody s_rank_of) (defScope s_rank_of) .none kV1 dc1 pm1 an1 cd1 ct1), sl1⟩)
    (c1 : PySem.W.codeIn K cd1 "rank_of" = true) (k1 : PySem.W.keepIn K (.ref fa1) = true)
    (a2 : PySem.W.nsIn K mainGlobals "check_ends" = some (some (.ref fa2)))
    (l2 : K.lookup fa2 = some ⟨oc2, od2, .func (PySem.W.fnOf "check_ends" "check_ends" (defArgs s_check_ends) (defBody s_check_ends) (defScope s_check_ends) .none kV2 dc2 pm2 an2 cd2 ct2), sl2⟩)
    (c2 : PySem.W.codeIn K cd2 "check_ends" = true) (k2 : PySem.W.keepIn K (.ref fa2) = true)
    (a3 : PySem.W.nsIn K mainGlobals "lent" = some (some (.ref fa3)))
    (l3 : K.lookup fa3 = some ⟨oc3, od3, .func (PySem.W.fnOf "lent" "lent" (defArgs s_lent) (defBody s_lent) (defScope s_lent) .none kV3 dc3 pm3 an3 cd3 ct3), sl3⟩)
    (c3 : PySem.W.codeIn K cd3 "lent" = true) (k3 : PySem.W.keepIn K (.ref fa3) = true)
    (a4 : PySem.W.nsIn K mainGlobals "check_leases" = some (some (.ref fa4)))
    (l4 : K.lookup fa4 = some ⟨oc4, od4, .func (PySem.W.fnOf "check_leases" "check_leases" (defArgs s_check_leases) (defBody s_check_leases) (defScope s_check_leases) .none kV4 dc4 pm4 an4 cd4 ct4), sl4⟩)
    (c4 : PySem.W.codeIn K cd4 "check_leases" = true) (k4 : PySem.W.keepIn K (.ref fa4) = true)
    (a5 : PySem.W.nsIn K mainGlobals "lease_right" = some (some (.ref fa5)))
    (l5 : K.lookup fa5 = some ⟨oc5, od5, .func (PySem.W.fnOf "lease_right" "lease_right" (defArgs s_lease_right) (defBody s_lease_right) (defScope s_lease_right) .none kV5 dc5 pm5 an5 cd5 ct5), sl5⟩)
    (c5 : PySem.W.codeIn K cd5 "lease_right" = true) (k5 : PySem.W.keepIn K (.ref fa5) = true)
    (a6 : PySem.W.nsIn K mainGlobals "under" = some (some (.ref fa6)))
    (l6 : K.lookup fa6 = some ⟨oc6, od6, .func (PySem.W.fnOf "under" "under" (defArgs s_under) (defBody s_under) (defScope s_under) .none kV6 dc6 pm6 an6 cd6 ct6), sl6⟩)
    (c6 : PySem.W.codeIn K cd6 "under" = true) (k6 : PySem.W.keepIn K (.ref fa6) = true)
    (a7 : PySem.W.nsIn K mainGlobals "_law_cell" = some (some (.ref fa7)))
    (l7 : K.lookup fa7 = some ⟨oc7, od7, .func (PySem.W.fnOf "_law_cell" "_law_cell" (defArgs s_law_cell) (defBody s_law_cell) (defScope s_law_cell) .none kV7 dc7 pm7 an7 cd7 ct7), sl7⟩)
    (c7 : PySem.W.codeIn K cd7 "_law_cell" = true) (k7 : PySem.W.keepIn K (.ref fa7) = true)
    (a8 : PySem.W.nsIn K mainGlobals "_law_digits" = some (some (.ref fa8)))
    (l8 : K.lookup fa8 = some ⟨oc8, od8, .func (PySem.W.fnOf "_law_digits" "_law_digits" (defArgs s_law_digits) (defBody s_law_digits) (defScope s_law_digits) .none kV8 dc8 pm8 an8 cd8 ct8), sl8⟩)
    (c8 : PySem.W.codeIn K cd8 "_law_digits" = true) (k8 : PySem.W.keepIn K (.ref fa8) = true)
    (a9 : PySem.W.nsIn K mainGlobals "_law_draw" = some (some (.ref fa9)))
    (l9 : K.lookup fa9 = some ⟨oc9, od9, .func (PySem.W.fnOf "_law_draw" "_law_draw" (defArgs s_law_draw) (defBody s_law_draw) (defScope s_law_draw) .none kV9 dc9 pm9 an9 cd9 ct9), sl9⟩)
    (c9 : PySem.W.codeIn K cd9 "_law_draw" = true) (k9 : PySem.W.keepIn K (.ref fa9) = true)
    (a10 : PySem.W.nsIn K mainGlobals "_law_same" = some (some (.ref fa10)))
    (l10 : K.lookup fa10 = some ⟨oc10, od10, .func (PySem.W.fnOf "_law_same" "_law_same" (defArgs s_law_same) (defBody s_law_same) (defScope s_law_same) .none kV10 dc10 pm10 an10 cd10 ct10), sl10⟩)
    (c10 : PySem.W.codeIn K cd10 "_law_same" = true) (k10 : PySem.W.keepIn K (.ref fa10) = true)
    (a11 : PySem.W.nsIn K mainGlobals "_law_basin" = some (some (.ref fa11)))
    (l11 : K.lookup fa11 = some ⟨oc11, od11, .func (PySem.W.fnOf "_law_basin" "_law_basin" (defArgs s_law_basin) (defBody s_law_basin) (defScope s_law_basin) .none kV11 dc11 pm11 an11 cd11 ct11), sl11⟩)
    (c11 : PySem.W.codeIn K cd11 "_law_basin" = true) (k11 : PySem.W.keepIn K (.ref fa11) = true)
    (a12 : PySem.W.nsIn K mainGlobals "_law_demands" = some (some (.ref fa12)))
    (l12 : K.lookup fa12 = some ⟨oc12, od12, .func (PySem.W.fnOf "_law_demands" "_law_demands" (defArgs s_law_demands) (defBody s_law_demands) (defScope s_law_demands) .none kV12 dc12 pm12 an12 cd12 ct12), sl12⟩)
    (c12 : PySem.W.codeIn K cd12 "_law_demands" = true) (k12 : PySem.W.keepIn K (.ref fa12) = true)
    (a13 : PySem.W.nsIn K mainGlobals "_law_more_rights" = some (some (.ref fa13)))
    (l13 : K.lookup fa13 = some ⟨oc13, od13, .func (PySem.W.fnOf "_law_more_rights" "_law_more_rights" (defArgs s_law_more_rights) (defBody s_law_more_rights) (defScope s_law_more_rights) .none kV13 dc13 pm13 an13 cd13 ct13), sl13⟩)
    (c13 : PySem.W.codeIn K cd13 "_law_more_rights" = true) (k13 : PySem.W.keepIn K (.ref fa13) = true)
    (a14 : PySem.W.nsIn K mainGlobals "_law_under" = some (some (.ref fa14)))
    (l14 : K.lookup fa14 = some ⟨oc14, od14, .func (PySem.W.fnOf "_law_under" "_law_under" (defArgs s_law_under) (defBody s_law_under) (defScope s_law_under) .none kV14 dc14 pm14 an14 cd14 ct14), sl14⟩)
    (c14 : PySem.W.codeIn K cd14 "_law_under" = true) (k14 : PySem.W.keepIn K (.ref fa14) = true)
    (a15 : PySem.W.nsIn K mainGlobals "_law_leases" = some (some (.ref fa15)))
    (l15 : K.lookup fa15 = some ⟨oc15, od15, .func (PySem.W.fnOf "_law_leases" "_law_leases" (defArgs s_law_leases) (defBody s_law_leases) (defScope s_law_leases) .none kV15 dc15 pm15 an15 cd15 ct15), sl15⟩)
    (c15 : PySem.W.codeIn K cd15 "_law_leases" = true) (k15 : PySem.W.keepIn K (.ref fa15) = true)
    (a16 : PySem.W.nsIn K mainGlobals "law" = some (some (.ref fa16)))
    (l16 : K.lookup fa16 = some ⟨oc16, od16, .func (PySem.W.fnOf "law" "law" (defArgs s_law) (defBody s_law) (defScope s_law) .none kV16 dc16 pm16 an16 cd16 ct16), sl16⟩)
    (c16 : PySem.W.codeIn K cd16 "law" = true) (k16 : PySem.W.keepIn K (.ref fa16) = true) : ModD P w K mg sg tab :=
  mod_of ⟨const_int X G z0, const_int X G z1, const_str X G z2, trivial⟩ ⟨PySem.W.mg_none_of X G y0, PySem.W.mg_none_of X G y1, PySem.W.mg_none_of X G y2, PySem.W.mg_none_of X G y3, PySem.W.mg_none_of X G y4, PySem.W.mg_none_of X G y5, PySem.W.mg_none_of X G y6, PySem.W.mg_none_of X G y7, trivial⟩ ⟨item_of X G rfl sc_check c_check rfl rfl bd_check a0 l0 c0 k0, item_of X G rfl sc_rank_of c_rank_of rfl rfl bd_rank_of a1 l1 c1 k1, item_of X G rfl sc_check_ends c_check_ends rfl rfl bd_check_ends a2 l2 c2 k2, item_of X G rfl sc_lent c_lent rfl rfl bd_lent a3 l3 c3 k3, item_of X G rfl sc_check_leases c_check_leases rfl rfl bd_check_leases a4 l4 c4 k4, item_of X G rfl sc_lease_right c_lease_right rfl rfl bd_lease_right a5 l5 c5 k5, item_of X G rfl sc_under c_under rfl rfl bd_under a6 l6 c6 k6, item_of X G rfl sc_law_cell c_law_cell rfl rfl bd_law_cell a7 l7 c7 k7, item_of X G rfl sc_law_digits c_law_digits rfl rfl bd_law_digits a8 l8 c8 k8, item_of X G rfl sc_law_draw c_law_draw rfl rfl bd_law_draw a9 l9 c9 k9, item_of X G rfl sc_law_same c_law_same rfl rfl bd_law_same a10 l10 c10 k10, item_of X G rfl sc_law_basin c_law_basin rfl rfl bd_law_basin a11 l11 c11 k11, item_of X G rfl sc_law_demands c_law_demands rfl rfl bd_law_demands a12 l12 c12 k12, item_of X G rfl sc_law_more_rights c_law_more_rights rfl rfl bd_law_more_rights a13 l13 c13 k13, item_of X G rfl sc_law_under c_law_under rfl rfl bd_law_under a14 l14 c14 k14, item_of X G rfl sc_law_leases c_law_leases rfl rfl bd_law_leases a15 l15 c15 k15, item_of X G rfl sc_law c_law rfl rfl bd_law a16 l16 c16 k16, trivial⟩
end L23
end
section
set_option maxRecDepth 100000
set_option maxHeartbeats 1000000
set_option autoImplicit false
open PySem PySem.W PyProof.Rows in
set_option maxRecDepth 100000 in
set_option maxHeartbeats 0 in
theorem PySem.Challenge.cw_heldwater_k23_lea_rights_under_leases_holds : PySem.Challenge.rw_heldwater_k23_lea_rights_under_leases.Holds := by
  w_on; o_law; k_head; (case hw => w_witness2)
  k_fill
  refine MP.law_mp (l := PySem.Challenge.rw_heldwater_k23_lea_rights_under_leases) (sg := L23.sg) (tab := L23.tab) (f := L23.i_law) (fn := L23.f_law) (k := 30) rfl (by decide) rfl ⟨rfl, by decide, by decide⟩ (fun w h Y => PySem.W.kIn_of Y) ?mdfact rfl rfl rfl L23.run_ok
  case mdfact =>
    intro w mg h KX G
    refine' L23.all_mk KX G ?z0 ?z1 ?z2 ?y0 ?y1 ?y2 ?y3 ?y4 ?y5 ?y6 ?y7 ?a0 ?l0 ?c0 ?k0 ?a1 ?l1 ?c1 ?k1 ?a2 ?l2 ?c2 ?k2 ?a3 ?l3 ?c3 ?k3 ?a4 ?l4 ?c4 ?k4 ?a5 ?l5 ?c5 ?k5 ?a6 ?l6 ?c6 ?k6 ?a7 ?l7 ?c7 ?k7 ?a8 ?l8 ?c8 ?k8 ?a9 ?l9 ?c9 ?k9 ?a10 ?l10 ?c10 ?k10 ?a11 ?l11 ?c11 ?k11 ?a12 ?l12 ?c12 ?k12 ?a13 ?l13 ?c13 ?k13 ?a14 ?l14 ?c14 ?k14 ?a15 ?l15 ?c15 ?k15 ?a16 ?l16 ?c16 ?k16
    (case z0 => k_is)
    (case z1 => k_is)
    (case z2 => k_is)
    (case y0 => k_is)
    (case y1 => k_is)
    (case y2 => k_is)
    (case y3 => k_is)
    (case y4 => k_is)
    (case y5 => k_is)
    (case y6 => k_is)
    (case y7 => k_is)
    (case a0 => k_is)
    (case l0 => k_is)
    (case c0 => k_is)
    (case k0 => k_is)
    (case a1 => k_is)
    (case l1 => k_is)
    (case c1 => k_is)
    (case k1 => k_is)
    (case a2 => k_is)
    (case l2 => k_is)
    (case c2 => k_is)
    (case k2 => k_is)
    (case a3 => k_is)
    (case l3 => k_is)
    (case c3 => k_is)
    (case k3 => k_is)
    (case a4 => k_is)
    (case l4 => k_is)
    (case c4 => k_is)
    (case k4 => k_is)
    (case a5 => k_is)
    (case l5 => k_is)
    (case c5 => k_is)
    (case k5 => k_is)
    (case a6 => k_is)
    (case l6 => k_is)
    (case c6 => k_is)
    (case k6 => k_is)
    (case a7 => k_is)
    (case l7 => k_is)
    (case c7 => k_is)
    (case k7 => k_is)
    (case a8 => k_is)
    (case l8 => k_is)
    (case c8 => k_is)
    (case k8 => k_is)
    (case a9 => k_is)
    (case l9 => k_is)
    (case c9 => k_is)
    (case k9 => k_is)
    (case a10 => k_is)
    (case l10 => k_is)
    (case c10 => k_is)
    (case k10 => k_is)
    (case a11 => k_is)
    (case l11 => k_is)
    (case c11 => k_is)
    (case k11 => k_is)
    (case a12 => k_is)
    (case l12 => k_is)
    (case c12 => k_is)
    (case k12 => k_is)
    (case a13 => k_is)
    (case l13 => k_is)
    (case c13 => k_is)
    (case k13 => k_is)
    (case a14 => k_is)
    (case l14 => k_is)
    (case c14 => k_is)
    (case k14 => k_is)
    (case a15 => k_is)
    (case l15 => k_is)
    (case c15 => k_is)
    (case k15 => k_is)
    (case a16 => k_is)
    (case l16 => k_is)
    (case c16 => k_is)
    (case k16 => k_is)
end

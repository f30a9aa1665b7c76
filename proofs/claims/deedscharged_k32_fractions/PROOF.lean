import PyProof.Rows.All
import Wide.All
import OpenK.AllK
import Wide.FinOn
import HandS.ForMost
import HandS.ForExc
import HandS.Wide
import HandS.TupMul
import HandS.TupAny
import HandS.Style
import HandS.HotCalls
import HandS.Conv
import KE.DataEq
import HandS.Text
import HandS.Comp
import HandS.IsInst
import HandS.Flow
import HandS.ExcIs
import HandS.TryOnly
import HandS.ExcOwn
import HandS.ExcCtx
import HandS.Defaults
import HandS.Codes
import HandS.Ends
import HandS.HeadEnd
import HandS.Words
import HandS.Head0
import HandS.Head1
import HandS.Head2
import HandS.HeadHook1
import HandS.HeadHook2
import PySem.Challenge.RW_deedscharged_k32_fractions
set_option Elab.async false
set_option linter.all false
set_option maxRecDepth 100000
/-! Pi, part A: deep values, the store, what the constructs give (plain Lean; nothing of the machine). -/
namespace Pi
open PySem

/-- deep values: tuples and lists that nobody changes are told by their items; what may change stands in the store -/
inductive D where
  | non | bl (b : Bool) | int (i : Int) | str (s : Str)
  | tup (ds : List D) | lst (ds : List D)
  | ref (n : Nat) | fn (x : Str) | ty (n : String) | exn
  /-- a list of ints that is only walked (the law's script) -/
  | scr (is : List Int)
  deriving Inhabited

/-! ### D has decidable equality -/
mutual
def D.beq : D → D → Bool
  | .non, .non => true
  | .bl a, .bl b => a == b
  | .int a, .int b => a == b
  | .str a, .str b => decide (a = b)
  | .tup a, .tup b => beqAll a b
  | .lst a, .lst b => beqAll a b
  | .ref a, .ref b => a == b
  | .fn a, .fn b => decide (a = b)
  | .ty a, .ty b => decide (a = b)
  | .exn, .exn => true
  | .scr a, .scr b => decide (a = b)
  | _, _ => false
def beqAll : List D → List D → Bool
  | [], [] => true
  | a :: r, b :: q => D.beq a b && beqAll r q
  | _, _ => false
end
mutual
theorem D.beq_refl : ∀ a : D, D.beq a a = true
  | .non | .exn => rfl
  | .scr a => by simp [D.beq]
  | .bl a | .int a | .ref a => by simp [D.beq]
  | .str a | .fn a | .ty a => by simp [D.beq]
  | .tup a | .lst a => by simp [D.beq, beqAll_refl a]
theorem beqAll_refl : ∀ a : List D, beqAll a a = true
  | [] => rfl
  | a :: r => by simp [beqAll, D.beq_refl a, beqAll_refl r]
end
mutual
theorem D.eq_of_beq : ∀ a b : D, D.beq a b = true → a = b
  | .non, b, h => by cases b <;> simp_all [D.beq]
  | .exn, b, h => by cases b <;> simp_all [D.beq]
  | .scr a, b, h => by cases b <;> simp_all [D.beq]
  | .bl a, b, h => by cases b <;> simp_all [D.beq]
  | .int a, b, h => by cases b <;> simp_all [D.beq]
  | .ref a, b, h => by cases b <;> simp_all [D.beq]
  | .str a, b, h => by cases b <;> simp_all [D.beq]
  | .fn a, b, h => by cases b <;> simp_all [D.beq]
  | .ty a, b, h => by cases b <;> simp_all [D.beq]
  | .tup a, b, h => by
    cases b with
    | tup b => rw [eqAll_of_beq a b (by simpa [D.beq] using h)]
    | _ => simp [D.beq] at h
  | .lst a, b, h => by
    cases b with
    | lst b => rw [eqAll_of_beq a b (by simpa [D.beq] using h)]
    | _ => simp [D.beq] at h
theorem eqAll_of_beq : ∀ a b : List D, beqAll a b = true → a = b
  | [], b, h => by cases b <;> simp_all [beqAll]
  | a :: r, b, h => by
    cases b with
    | nil => simp [beqAll] at h
    | cons b q =>
      simp only [beqAll, Bool.and_eq_true] at h
      rw [D.eq_of_beq a b h.1, eqAll_of_beq r q h.2]
end
instance : DecidableEq D := fun a b => if h : D.beq a b = true then .isTrue (D.eq_of_beq a b h) else .isFalse fun e => h (e ▸ D.beq_refl a)

inductive Ob where
  | lst (ds : List D)
  | ins (c : Str) (fs : List (Str × D))
  deriving Inhabited, DecidableEq

abbrev Sto := List Ob
abbrev Env := List (Option D)
structure Exc where
  cls : Str
  fs : List (Str × D)
  deriving Inhabited, DecidableEq

/-- what an expression gives: a value and the store, an exception, or nothing that we can tell -/
inductive Res (α : Type) where
  | ok (a : α) (s : Sto)
  | exc (e : Exc) (s : Sto)
  | stuck
def Res.bind {α β : Type} (r : Res α) (f : α → Sto → Res β) : Res β := match r with
  | .ok a s => f a s
  | .exc e s => .exc e s
  | .stuck => .stuck
@[simp] theorem Res.bind_ok {α β : Type} (a : α) (s : Sto) (f : α → Sto → Res β) : (Res.ok a s).bind f = f a s := rfl
@[simp] theorem Res.bind_exc {α β : Type} (e : Exc) (s : Sto) (f : α → Sto → Res β) : (Res.exc e s : Res α).bind f = .exc e s := rfl
@[simp] theorem Res.bind_stuck {α β : Type} (f : α → Sto → Res β) : (Res.stuck : Res α).bind f = .stuck := rfl
/-- a pure answer -/
def Res.of {α : Type} (o : Option α) (s : Sto) : Res α := match o with
  | some a => .ok a s
  | none => .stuck
@[simp] theorem Res.of_some {α : Type} (a : α) (s : Sto) : Res.of (some a) s = .ok a s := rfl
@[simp] theorem Res.of_none {α : Type} (s : Sto) : Res.of (none : Option α) s = .stuck := rfl

/-- what a statement gives -/
inductive Out where
  | nx (e : Env) (s : Sto)
  | bk (e : Env) (s : Sto)
  | ct (e : Env) (s : Sto)
  | rt (d : D) (s : Sto)
  | exc (e : Env) (x : Exc) (s : Sto)
  | stuck

/-! ### looks -/
def listOf (s : Sto) : D → Option (List D)
  | .lst ds => some ds
  | .ref n => match s[n]? with
    | some (.lst ds) => some ds
    | _ => none
  | _ => none
def seqOf (s : Sto) : D → Option (List D)
  | .tup ds => some ds
  | d => listOf s d
def truth (s : Sto) : D → Option Bool
  | .non => some false
  | .bl b => some b
  | .int i => some (i != 0)
  | .str x => if x.length ≤ sizeLine then some (x.length != 0) else none
  | d => (seqOf s d).map fun ds => !ds.isEmpty

/-! ### data: what == and repr see -/
mutual
/-- no reference, no function within -/
def D.pl : D → Bool
  | .non | .bl _ | .int _ | .str _ => true
  | .tup ds | .lst ds => plAll ds
  | _ => false
def plAll : List D → Bool
  | [] => true
  | d :: r => d.pl && plAll r
end
mutual
def D.pd : D → PyData
  | .non => .none
  | .bl b => .bool b
  | .int i => .int i
  | .str x => .str x
  | .tup ds => .tuple (pdAll ds)
  | .lst ds => .list (pdAll ds)
  | _ => .none
def pdAll : List D → List PyData
  | [] => []
  | d :: r => d.pd :: pdAll r
end
/-- a list in the store is seen as what it holds -/
def view (s : Sto) (d : D) : D := match d with
  | .ref n => match s[n]? with
    | some (.lst ds) => .lst ds
    | _ => d
  | _ => d
/-- at most so many tuples within one another -/
def eqRoom : Nat := 60
def eqD (s : Sto) (a b : D) : Option Bool :=
  if (view s a).pl && (view s b).pl && decide ((view s a).pd.depth ≤ eqRoom) then some (PyData.eqv (view s a).pd (view s b).pd) else none

/-! ### operators -/
def mulOk (i j : Int) : Bool := decide (i.natAbs.log2 + j.natAbs.log2 < 1000000)
def divOk (j : Int) : Bool := decide (0 < j) && decide (j.natAbs.log2 < 9000)
def repOk (n : Nat) (k : Int) : Bool := decide (0 ≤ k) && decide (k ≤ 1000) && decide (n ≤ 1000)
def binD (op : Operator) (s : Sto) (a b : D) : Option D :=
  match op, a, b with
  | .Add, .int i, .int j => some (.int (i + j))
  | .Sub, .int i, .int j => some (.int (i - j))
  | .Mult, .int i, .int j => if mulOk i j then some (.int (i * j)) else none
  | .FloorDiv, .int i, .int j => if divOk j then some (.int (i / j)) else none
  | .Mod, .int i, .int j => if 0 < j then some (.int (i % j)) else none
  | .RShift, .int i, .int j => if 0 ≤ j then some (.int (i / 2 ^ j.toNat)) else none
  | .Pow, .int i, .int j => if 0 ≤ j ∧ j ≤ 1000 ∧ i.natAbs < 2 ^ 64 then some (.int (i ^ j.toNat)) else none
  | .Add, .str x, .str y => if x.length + y.length ≤ sizeLine then some (.str (x ++ y)) else none
  | .Add, .tup x, .tup y => if x.length + y.length ≤ sizeLine then some (.tup (x ++ y)) else none
  | .Mult, .tup x, .int k => if x ≠ [] ∧ 2 ≤ k ∧ k ≤ 1000 ∧ x.length ≤ 1000 then some (.tup (List.replicate k.toNat x).flatten) else none
  | .Add, a, b => match listOf s a, listOf s b with
    | some x, some y => if x.length + y.length ≤ sizeLine then some (.lst (x ++ y)) else none
    | _, _ => none
  | .Mult, a, .int k => match listOf s a with
    | some x => if repOk x.length k then some (.lst (List.replicate k.toNat x).flatten) else none
    | _ => none
  | _, _, _ => none
def negD : D → Option D
  | .int i => some (.int (-i))
  | _ => none
def strIn (x y : Str) : Bool := !(Builtin.Str.occurrences y x 0 y.length 1).isEmpty
def inD (s : Sto) (a b : D) : Option Bool :=
  match a, b with
  | .str x, .str y => some (strIn x y)
  | a, b => match seqOf s b with
    | some ds => if a.pl && plAll ds && decide (a.pd.depth ≤ eqRoom) then some (ds.any fun d => PyData.eqv d.pd a.pd) else none
    | none => none
def isD (a b : D) : Option Bool :=
  match b with
  | .non => match a with
    | .non => some true
    | .exn => none
    | _ => some false
  | .bl y => match a with
    | .bl x => some (x == y)
    | _ => none
  | _ => none
def cmpD (op : CmpOp) (s : Sto) (a b : D) : Option Bool :=
  match op, a, b with
  | .Lt, .int i, .int j => some (decide (i < j))
  | .LtE, .int i, .int j => some (decide (i ≤ j))
  | .Gt, .int i, .int j => some (decide (j < i))
  | .GtE, .int i, .int j => some (decide (j ≤ i))
  | .LtE, .str x, .str y => some (!decide (y.cps.toList < x.cps.toList))
  | .Eq, a, b => eqD s a b
  | .NotEq, a, b => (eqD s a b).map (!·)
  | .In, a, b => inD s a b
  | .NotIn, a, b => (inD s a b).map (!·)
  | .Is, a, b => isD a b
  | .IsNot, a, b => (isD a b).map (!·)
  | _, _, _ => none

/-! ### subscripts, slices -/
def cutD (xs : List D) (lo hi : Option Int) : List D := (xs.drop (HT.sIx xs.length 0 lo)).take (HT.sIx xs.length xs.length hi - HT.sIx xs.length 0 lo)
def idxD (s : Sto) (a b : D) : Option D :=
  match a, b with
  | .str x, .int i => if x.length ≤ sizeLine then (L2.atI x.cps.toList i).map fun c => .str ⟨#[c]⟩ else none
  | a, .int i => match seqOf s a with
    | some ds => L2.atI ds i
    | none => none
  | _, _ => none
def cutAt (s : Sto) (a : D) (lo hi : Option Int) : Option D :=
  match a with
  | .str x => if x.length ≤ sizeLine then some (.str (L2.cutS x lo hi)) else none
  | .tup ds => some (.tup (cutD ds lo hi))
  | a => (listOf s a).map fun ds => .lst (cutD ds lo hi)

end Pi

set_option maxRecDepth 100000
/-! Pi, part B: the AST and what it gives. -/
namespace Pi
open PySem

/-! ### the AST -/
/-- the built-ins that are called -/
inductive Bi where
  | len | abs | int | all | any | sum | tuple | list | repr | str | bool
  deriving DecidableEq, Repr, Inhabited
def Bi.name : Bi → Str
  | .len => "len" | .abs => "abs" | .int => "int" | .all => "all" | .any => "any" | .sum => "sum" | .tuple => "tuple" | .list => "list" | .repr => "repr" | .str => "str" | .bool => "bool"
/-- the methods of built-in types that are called -/
inductive Me where
  | append | extend | pop | reverse
  deriving DecidableEq, Repr, Inhabited
def Me.name : Me → Str
  | .append => "append" | .extend => "extend" | .pop => "pop" | .reverse => "reverse"
mutual
inductive E where
  | c (d : D)
  | v (i : Nat)
  | g (x : Str) (d : D)
  | bin (op : Operator) (a b : E)
  | neg (a : E)
  | not (a : E)
  | cmp (op : CmpOp) (a b : E)
  | chain (o1 o2 : CmpOp) (a b c : E)
  | and (a b : E)
  | or (a b : E)
  | ite (t a b : E)
  | idx (a b : E)
  | cut (a : E) (lo hi : EO)
  | rev (a : E)
  | tup (es : EL)
  | lst (es : EL)
  | call (x : Str) (es : EL)
  | callE (f : E) (es : EL)
  | bi (x : Bi) (es : EL)
  | isi (a : E) (cs : List D)
  | meth (m : Me) (o : E) (es : EL)
  | attr (o : E) (f : Str)
  | comp (vs : List Nat) (e : E) (it : IT) (cl : CL)
  | mat (e : E)
inductive EO where
  | none
  | some (e : E)
inductive EL where
  | nil
  | cons (e : E) (r : EL)
inductive IT where
  | ex (e : E)
  | range (es : EL)
  | enum (e : E)
  | zip (a b : E)
inductive TG where
  | v (i : Nat)
  | tup (ts : TGL)
  | sub (o i : E)
  | attr (o : E) (f : Str)
inductive TGL where
  | nil
  | cons (t : TG) (r : TGL)
/-- clauses: what a turn stores, its test; then the next one's source -/
inductive CL where
  | one (t : TG) (c : EO)
  | more (t : TG) (c : EO) (it : IT) (r : CL)
end
instance : Inhabited E := ⟨.c .non⟩
instance : Inhabited TG := ⟨.v 0⟩

mutual
inductive S where
  | asg (t : TG) (e : E)
  | par (is : List Nat) (es : EL)
  | aug (i : Nat) (op : Operator) (e : E)
  | augF (o : E) (f : Str) (op : Operator) (e : E)
  | ex (e : E)
  | ret (e : E)
  | retN
  | ite (t : E) (a b : SL)
  | for (t : TG) (it : IT) (b : SL)
  | while (t : E) (b : SL)
  | raise (c : Str) (es : EL)
  | try (b : SL) (hs : HL)
  | pass | brk | cont
inductive SL where
  | nil
  | cons (s : S) (r : SL)
inductive HL where
  | nil
  | cons (c : Str) (as : Option Nat) (b : SL) (r : HL)
end

/-! ### the context of an evaluation -/
structure Ct where
  /-- a call of a def by its name, while an exception is handled or none -/
  call : Option Exc → Str → List D → Sto → Res D
  /-- an exception of a class, made of values -/
  mkx : Str → List D → Option Exc
  /-- the exception that is handled -/
  hd : Option Exc
  /-- is the first class (an exception's) below the second -/
  sub : Str → Str → Option Bool
  /-- turns of a while -/
  fuel : Nat

/-! ### built-in functions -/
def intsD (s : Sto) (d : D) : Option (List Int) := match listOf s d with
  | some ds => ds.mapM fun d => match d with
    | .int i => some i
    | _ => none
  | none => none
def boolsD (s : Sto) (d : D) : Option (List Bool) := match listOf s d with
  | some ds => ds.mapM fun d => match d with
    | .bl i => some i
    | _ => none
  | none => none
def lenD (s : Sto) (d : D) : Option D := match d with
  | .str x => if x.length ≤ sizeLine then some (.int x.length) else none
  | d => (seqOf s d).map fun ds => .int ds.length
def intOk (i : Int) : Bool := decide (i.natAbs.log2 < 1920)
def showD (s : Sto) (d : D) : Option D :=
  if (view s d).pl && (view s d).pd.showable && decide ((view s d).pd.depth ≤ eqRoom) && decide ((view s d).pd.shown.length ≤ sizeLine) then some (.str (view s d).pd.shown) else none
/-- built-ins that change nothing -/
def biD (x : Bi) (s : Sto) (ds : List D) : Option D :=
  match x, ds with
  | .len, [d] => lenD s d
  | .abs, [.int i] => some (.int (if i < 0 then -i else i))
  | .int, [.int i] => some (.int i)
  | .int, [.bl b] => some (.int (if b then 1 else 0))
  | .all, [d] => (boolsD s d).map fun bs => .bl (bs.all id)
  | .any, [d] => (boolsD s d).map fun bs => .bl (bs.any id)
  | .sum, [d] => (intsD s d).map fun is => .int is.sum
  | .tuple, [d] => (seqOf s d).map .tup
  | .list, [d] => (seqOf s d).map .lst
  | .repr, [d] => showD s d
  | .str, [.int i] => if intOk i then some (.str (toString i : String)) else none
  | .bool, [.bl b] => some (.bl b)
  | .bool, [.int i] => some (.bl (i != 0))
  | _, _ => none
def tyKnown (t : String) : Bool := ["int", "str", "tuple", "list", "bool"].contains t
def tyOf (hd : Option Exc) (sub : Str → Str → Option Bool) (s : Sto) (d : D) (c : D) : Option Bool :=
  match c with
  | .ty t => if tyKnown t = false then none else match d with
    | .non => some false
    | .bl _ => some (t == "int" || t == "bool")
    | .int _ => some (t == "int")
    | .str _ => some (t == "str")
    | .tup _ => some (t == "tuple")
    | .lst _ => some (t == "list")
    | .ref n => match s[n]? with
      | some (.lst _) => some (t == "list")
      | _ => none
    | _ => none
  | .fn x => match d, hd with
    | .exn, some e => if e.fs.isEmpty then sub e.cls x else none
    | _, _ => none
  | _ => none
def isiD (hd : Option Exc) (sub : Str → Str → Option Bool) (s : Sto) (d : D) : List D → Option Bool
  | [] => some false
  | c :: r => match tyOf hd sub s d c with
    | some true => some true
    | some false => isiD hd sub s d r
    | none => none

/-! ### methods of built-in types -/
def isRef : D → Bool
  | .ref _ => true
  | _ => false
def methL (m : Me) (s : Sto) (o : D) (n : Nat) (xs ds : List D) : Res D :=
  match m with
  | .append => match ds with
    | [d] => if xs.length < sizeLine then .ok .non (s.set n (.lst (xs ++ [d]))) else .stuck
    | _ => .stuck
  | .extend => match ds with
    | [d] => match listOf s d with
      | some ys => if xs.length + ys.length ≤ sizeLine ∧ d ≠ o then .ok .non (s.set n (.lst (xs ++ ys))) else .stuck
      | none => .stuck
    | _ => .stuck
  | .pop => match ds with
    | [] => match xs[xs.length - 1]? with
      | some y => .ok y (s.set n (.lst xs.dropLast))
      | none => .stuck
    | _ => .stuck
  | .reverse => match ds with
    | [] => .ok .non (s.set n (.lst xs.reverse))
    | _ => .stuck
def methD (m : Me) (s : Sto) (o : D) (ds : List D) : Res D :=
  match o with
  | .ref n => match s[n]? with
    | some (.lst xs) => methL m s o n xs ds
    | _ => .stuck
  | _ => .stuck

/-! ### what is walked -/
abbrev Gd := List (Nat × List D)
def held (gd : Gd) (s : Sto) : Bool := gd.all fun p => decide (s[p.1]? = some (.lst p.2))
def guardOf (s : Sto) (d : D) : Gd := match d with
  | .ref n => match s[n]? with
    | some (.lst ds) => [(n, ds)]
    | _ => []
  | _ => []
def rangeOf (lo : Int) (n : Nat) : List D := (List.range n).map fun (k : Nat) => .int (lo + (k : Int))
def small62 (i : Int) : Bool := decide (-(2 ^ 62) ≤ i) && decide (i < 2 ^ 62)
def itemsOf (s : Sto) (d : D) : Option (List D) := match d with
  | .str x => some (x.cps.toList.map fun c => .str ⟨#[c]⟩)
  | .scr is => some (is.map .int)
  | d => seqOf s d
def enumFrom (k : Nat) : List D → List D
  | [] => []
  | d :: r => .tup [.int k, d] :: enumFrom (k + 1) r
def rangeD (ds : List D) : Option (List D) := match ds with
  | [.int j] => if small62 j then some (rangeOf 0 j.toNat) else none
  | [.int i, .int j] => if small62 i && small62 j then some (rangeOf i (j - i).toNat) else none
  | _ => none

/-! ### loops, told once -/
def loopFor (gd : Gd) (g : D → Env → Sto → Res Env) (b : Env → Sto → Out) : List D → Env → Sto → Out
  | [], e, s => if held gd s then .nx e s else .stuck
  | d :: r, e, s => if held gd s then match g d e s with
    | .ok e1 s1 => match b e1 s1 with
      | .nx e2 s2 => loopFor gd g b r e2 s2
      | .ct e2 s2 => loopFor gd g b r e2 s2
      | .bk e2 s2 => .nx e2 s2
      | o => o
    | .exc x s1 => .exc e x s1
    | .stuck => .stuck
    else .stuck
def loopWhile (t : Env → Sto → Res Bool) (b : Env → Sto → Out) : Nat → Env → Sto → Out
  | 0, _, _ => .stuck
  | n + 1, e, s => match t e s with
    | .ok true s1 => match b e s1 with
      | .nx e2 s2 => loopWhile t b n e2 s2
      | .ct e2 s2 => loopWhile t b n e2 s2
      | .bk e2 s2 => .nx e2 s2
      | o => o
    | .ok false s1 => .nx e s1
    | .exc x s1 => .exc e x s1
    | .stuck => .stuck
/-- a comprehension's loop: acc holds what is made -/
def loopComp (gd : Gd) (e0 : Env) (g : D → Env → Sto → Res Env) (b : Env → List D → Sto → Res (List D)) : List D → List D → Sto → Res (List D)
  | [], acc, s => if held gd s then .ok acc s else .stuck
  | d :: r, acc, s => if held gd s then match g d e0 s with
    | .ok e1 s1 => match b e1 acc s1 with
      | .ok acc' s2 => loopComp gd e0 g b r acc' s2
      | .exc x s2 => .exc x s2
      | .stuck => .stuck
    | .exc x s1 => .exc x s1
    | .stuck => .stuck
    else .stuck
def wipeE (e : Env) : List Nat → Env
  | [] => e
  | i :: r => (wipeE e r).set i none

/-- items that may be put together -/
def calmL (hd : Option Exc) (ds : List D) : Bool := (hd.isNone || ds.all fun d => decide (d ≠ .exn)) && decide (ds.length ≤ sizeLine)
/-- no exception is told -/
def Res.calm {α : Type} : Res α → Res α
  | .exc _ _ => .stuck
  | r => r
@[simp] theorem Res.calm_ok {α : Type} (a : α) (s : Sto) : (Res.ok a s).calm = .ok a s := rfl
theorem Res.bind_assoc {α β γ : Type} (r : Res α) (f : α → Sto → Res β) (h : β → Sto → Res γ) : (r.bind f).bind h = r.bind fun a s => (f a s).bind h := by cases r <;> rfl
theorem Res.bind_id {α : Type} (r : Res α) : r.bind (fun a s => .ok a s) = r := by cases r <;> rfl
/-- a new list becomes an object of the store -/
def matR (d : D) (s : Sto) : Res D := match d with
  | .lst ds => .ok (.ref s.length) (s ++ [.lst ds])
  | _ => .stuck
/-- x[y] = d -/
def setD (x y d : D) (e : Env) (s : Sto) : Res Env := match x, y with
  | .ref n, .int k => match s[n]? with
    | some (.lst xs) => match L2.ixN xs.length k with
      | some j => if d = .exn then .stuck else .ok e (s.set n (.lst (xs.set j d)))
      | none => .stuck
    | _ => .stuck
  | _, _ => .stuck
section
variable (cx : Ct)
/-- as a test -/
def tst (r : Res D) : Res Bool := r.bind fun d s => Res.of (truth s d) s

mutual
def evE : E → Env → Sto → Res D
  | .c d, _, s => .ok d s
  | .v i, e, s => match e[i]? with
    | some (some d) => .ok d s
    | _ => .stuck
  | .g _ d, _, s => .ok d s
  | .bin op a b, e, s => (evE a e s).bind fun x s1 => (evE b e s1).bind fun y s2 => Res.of (binD op s2 x y) s2
  | .neg a, e, s => (evE a e s).bind fun x s1 => Res.of (negD x) s1
  | .not a, e, s => (tst (evE a e s)).bind fun k s1 => .ok (.bl (!k)) s1
  | .cmp op a b, e, s => (evE a e s).bind fun x s1 => (evE b e s1).bind fun y s2 => Res.of ((cmpD op s2 x y).map .bl) s2
  | .chain o1 o2 a b c, e, s => (evE a e s).bind fun x s1 => (evE b e s1).bind fun y s2 => (Res.of (cmpD o1 s2 x y) s2).bind fun k s3 =>
    if k then (evE c e s3).bind fun z s4 => Res.of ((cmpD o2 s4 y z).map .bl) s4 else .ok (.bl false) s3
  | .and a b, e, s => (evE a e s).bind fun x s1 => (Res.of (truth s1 x) s1).bind fun k s2 => if k then evE b e s2 else .ok x s2
  | .or a b, e, s => (evE a e s).bind fun x s1 => (Res.of (truth s1 x) s1).bind fun k s2 => if k then .ok x s2 else evE b e s2
  | .ite t a b, e, s => (tst (evE t e s)).bind fun k s1 => if k then evE a e s1 else evE b e s1
  | .idx a b, e, s => (evE a e s).bind fun x s1 => (evE b e s1).bind fun y s2 => Res.of (idxD s2 x y) s2
  | .cut a lo hi, e, s => (evE a e s).bind fun x s1 => (evO lo e s1).bind fun l s2 => (evO hi e s2).bind fun h s3 => Res.of (cutAt s3 x l h) s3
  | .rev a, e, s => (evE a e s).bind fun x s1 => Res.of (match x with
    | .tup ds => some (.tup ds.reverse)
    | x => (listOf s1 x).map fun ds => .lst ds.reverse) s1
  | .tup es, e, s => (evL es e s).bind fun ds s1 => if calmL cx.hd ds then .ok (.tup ds) s1 else .stuck
  | .lst es, e, s => (evL es e s).bind fun ds s1 => if calmL cx.hd ds then .ok (.lst ds) s1 else .stuck
  | .call x es, e, s => (evL es e s).bind fun ds s1 => cx.call cx.hd x ds s1
  | .callE f es, e, s => (evE f e s).bind fun d s1 => (evL es e s1).bind fun ds s2 => match d with
    | .fn x => cx.call cx.hd x ds s2
    | _ => .stuck
  | .bi x es, e, s => (evL es e s).bind fun ds s1 => Res.of (biD x s1 ds) s1
  | .isi a cs, e, s => (evE a e s).bind fun d s1 => Res.of ((isiD cx.hd cx.sub s1 d cs).map .bl) s1
  | .meth m o es, e, s => (evE o e s).bind fun d s1 => if isRef d then (evL es e s1).bind fun ds s2 => methD m s2 d ds else .stuck
  | .attr o f, e, s => (evE o e s).bind fun d s1 => match d with
    | .ref n => match s1[n]? with
      | some (.ins _ fs) => Res.of (fs.lookup f) s1
      | _ => .stuck
    | .exn => match cx.hd with
      | some x => Res.of (x.fs.lookup f) s1
      | none => .stuck
    | _ => .stuck
  | .comp vs a it cl, e, s => ((evI it e s).bind fun p s0 => evC cl p (wipeE e vs) (fun e1 acc s1 => (evE a e1 s1).bind fun d s2 => if acc.length < sizeLine then .ok (acc ++ [d]) s2 else .stuck) [] s0).calm.bind fun ds s1 => .ok (.lst ds) s1
  | .mat a, e, s => (evE a e s).bind matR
def evO : EO → Env → Sto → Res (Option Int)
  | .none, _, s => .ok none s
  | .some a, e, s => (evE a e s).bind fun d s1 => match d with
    | .int i => .ok (some i) s1
    | _ => .stuck
def evL : EL → Env → Sto → Res (List D)
  | .nil, _, s => .ok [] s
  | .cons a r, e, s => (evE a e s).bind fun d s1 => (evL r e s1).bind fun ds s2 => .ok (d :: ds) s2
def evI : IT → Env → Sto → Res (List D × Gd)
  | .ex a, e, s => (evE a e s).bind fun d s1 => match itemsOf s1 d with
    | some ds => .ok (ds, guardOf s1 d) s1
    | none => .stuck
  | .range es, e, s => (evL es e s).bind fun ds s1 => match rangeD ds with
    | some ds => .ok (ds, []) s1
    | none => .stuck
  | .enum a, e, s => (evE a e s).bind fun d s1 => match seqOf s1 d with
    | some ds => .ok (enumFrom 0 ds, guardOf s1 d) s1
    | none => .stuck
  | .zip a b, e, s => (evE a e s).bind fun x s1 => (evE b e s1).bind fun y s2 => match seqOf s2 x, seqOf s2 y with
    | some ds, some es => .ok (List.zipWith (fun d e => .tup [d, e]) ds es, guardOf s2 x ++ guardOf s2 y) s2
    | _, _ => .stuck
def evG : TG → D → Env → Sto → Res Env
  | .v i, d, e, s => if i < e.length then .ok (e.set i (some d)) s else .stuck
  | .tup ts, d, e, s => match d with
    | .tup ds => evGs ts ds e s
    | _ => .stuck
  | .sub o i, d, e, s => ((evE o e s).bind fun x s1 => (evE i e s1).bind fun y s2 => setD x y d e s2).calm
  | .attr o f, d, e, s => .stuck
def evGs : TGL → List D → Env → Sto → Res Env
  | .nil, ds, e, s => match ds with
    | [] => .ok e s
    | _ => .stuck
  | .cons t r, ds, e, s => match ds with
    | d :: q => (evG t d e s).bind fun e1 s1 => evGs r q e1 s1
    | [] => .stuck
/-- the clauses of a comprehension, over what is walked; k: what a turn of the innermost one makes of the list so far -/
def evC : CL → List D × Gd → Env → (Env → List D → Sto → Res (List D)) → List D → Sto → Res (List D)
  | .one t c, p, e, k, acc, s => loopComp p.2 e (fun d e s => evG t d e s) (fun e1 acc s1 => (evT c e1 s1).bind fun b s2 => if b then k e1 acc s2 else .ok acc s2) p.1 acc s
  | .more t c it r, p, e, k, acc, s => loopComp p.2 e (fun d e s => evG t d e s) (fun e1 acc s1 => (evT c e1 s1).bind fun b s2 => if b then (evI it e1 s2).bind fun q s3 => evC r q e1 k acc s3 else .ok acc s2) p.1 acc s
/-- a clause's test -/
def evT : EO → Env → Sto → Res Bool
  | .none, _, s => .ok true s
  | .some c, e, s => tst (evE c e s)
end
end
end Pi

set_option maxRecDepth 100000
/-! Pi, part C: statements, defs. -/
namespace Pi
open PySem

def noX (e : Env) : Bool := e.all fun o => decide (o ≠ some .exn)
def offE (i : Option Nat) (e : Env) : Env := match i with
  | some i => e.set i none
  | none => e
/-- behind an except suite -/
def endSuite (i : Option Nat) : Out → Out
  | .nx e s => if noX (offE i e) then .nx (offE i e) s else .stuck
  | .bk e s => if noX (offE i e) then .bk (offE i e) s else .stuck
  | .ct e s => if noX (offE i e) then .ct (offE i e) s else .stuck
  | .rt d s => if d = .exn then .stuck else .rt d s
  | _ => .stuck

/-- x += y -/
def augD (s : Sto) (x y : D) : Option D := match x, y with
  | .int i, .int j => some (.int (i + j))
  | .str i, .str j => if i.length + j.length ≤ sizeLine then some (.str (i ++ j)) else none
  | _, _ => none
mutual
def exS (cx : Ct) : S → Env → Sto → Out
  | .asg t a, e, s => match (evE cx a e s).bind fun d s1 => evG cx t d e s1 with
    | .ok e1 s1 => .nx e1 s1
    | .exc x s1 => .exc e x s1
    | .stuck => .stuck
  | .par is es, e, s => match evL cx es e s with
    | .ok ds s1 => if ds.length = is.length then .nx ((is.zip ds).foldl (fun e p => e.set p.1 (some p.2)) e) s1 else .stuck
    | .exc x s1 => .exc e x s1
    | .stuck => .stuck
  | .aug i op a, e, s => match (evE cx (.v i) e s).bind fun x s0 => (evE cx a e s0).bind fun y s1 => Res.of (if op = .Add then augD s1 x y else none) s1 with
    | .ok d s1 => .nx (e.set i (some d)) s1
    | .exc x s1 => .exc e x s1
    | .stuck => .stuck
  | .augF o f op a, e, s => .stuck
  | .ex a, e, s => match evE cx a e s with
    | .ok _ s1 => .nx e s1
    | .exc x s1 => .exc e x s1
    | .stuck => .stuck
  | .ret a, e, s => match evE cx a e s with
    | .ok d s1 => .rt d s1
    | .exc x s1 => .exc e x s1
    | .stuck => .stuck
  | .retN, _, s => .rt .non s
  | .ite t a b, e, s => match tst (evE cx t e s) with
    | .ok true s1 => exSs cx a e s1
    | .ok false s1 => exSs cx b e s1
    | .exc x s1 => .exc e x s1
    | .stuck => .stuck
  | .for t it b, e, s => match evI cx it e s with
    | .ok p s1 => loopFor p.2 (fun d e s => evG cx t d e s) (fun e s => exSs cx b e s) p.1 e s1
    | .exc x s1 => .exc e x s1
    | .stuck => .stuck
  | .while t b, e, s => loopWhile (fun e s => tst (evE cx t e s)) (fun e s => exSs cx b e s) cx.fuel e s
  | .raise c es, e, s => match evL cx es e s with
    | .ok ds s1 => match cx.mkx c ds with
      | some x => .exc e x s1
      | none => .stuck
    | .exc x s1 => .exc e x s1
    | .stuck => .stuck
  | .try b hs, e, s => match exSs cx b e s with
    | .exc e1 x s1 => exHs cx hs x e1 s1
    | o => o
  | .pass, e, s => .nx e s
  | .brk, e, s => .bk e s
  | .cont, e, s => .ct e s
def exSs (cx : Ct) : SL → Env → Sto → Out
  | .nil, e, s => .nx e s
  | .cons a r, e, s => match exS cx a e s with
    | .nx e1 s1 => exSs cx r e1 s1
    | o => o
def exHs (cx : Ct) : HL → Exc → Env → Sto → Out
  | .nil, x, e, s => .exc e x s
  | .cons c i b r, x, e, s => match cx.sub x.cls c with
    | some true => endSuite i (exSs { cx with hd := some x } b (match i with | some i => e.set i (some .exn) | none => e) s)
    | some false => exHs cx r x e s
    | none => .stuck
end

/-! ### defs -/
structure Def where
  name : Str
  params : Nat
  slots : Nat
  body : SL
  /-- a list that it gives stays one that may change -/
  fresh : Bool
  /-- it may be called while an exception is handled -/
  hot : Bool

mutual
/-- no reference from n on within -/
def D.cl (n : Nat) : D → Bool
  | .ref k => decide (k < n)
  | .tup ds | .lst ds => clAll n ds
  | .exn => false
  | _ => true
def clAll (n : Nat) : List D → Bool
  | [] => true
  | d :: r => d.cl n && clAll n r
end
def Ob.cl (n : Nat) : Ob → Bool
  | .lst ds => clAll n ds
  | .ins _ fs => fs.all fun p => p.2.cl n
/-- the objects that stood at the entry hold no newer ones -/
def backOk (s0 s : Sto) : Bool := decide (s0.length ≤ s.length) && (List.range s0.length).all fun j => decide (s[j]? = s0[j]?) || match s[j]? with
  | some o => o.cl s0.length
  | none => false
/-- new lists told by what they hold; the object bad is not met -/
def resolve (s : Sto) (n : Nat) (bad : Option Nat) : Nat → D → Option D
  | 0, _ => none
  | f + 1, .ref k => if k < n then some (.ref k) else if bad = some k then none else match s[k]? with
    | some (.lst ds) => (ds.mapM (resolve s n bad f)).map .lst
    | _ => none
  | f + 1, .tup ds => (ds.mapM (resolve s n bad f)).map .tup
  | f + 1, .lst ds => (ds.mapM (resolve s n bad f)).map .lst
  | _ + 1, .exn => none
  | _ + 1, .scr _ => none
  | _ + 1, d => some d
def leave (s0 : Sto) (fresh : Bool) (d : D) (s : Sto) : Res D :=
  if backOk s0 s then
    if d.pl then .ok d (s.take s0.length)
    else if fresh then match d with
      | .ref k => if k < s0.length then .stuck else match s[k]? with
        | some (.lst ds) => match ds.mapM (resolve s s0.length (some k) 20) with
          | some ds' => .ok (.ref s0.length) (s.take s0.length ++ [.lst ds'])
          | none => .stuck
        | _ => .stuck
      | _ => .stuck
    else match resolve s s0.length none 20 d with
      | some d' => .ok d' (s.take s0.length)
      | none => .stuck
  else .stuck
def leaveX (s0 : Sto) (x : Exc) (s : Sto) : Res D :=
  if backOk s0 s && x.fs.all (fun p => p.2.pl) then .exc x (s.take s0.length) else .stuck
def startE (d : Def) (ds : List D) : Env := ds.map some ++ List.replicate (d.slots - d.params) none
def finish (s0 : Sto) (fresh : Bool) : Out → Res D
  | .nx _ s => leave s0 fresh .non s
  | .rt d s => leave s0 fresh d s
  | .exc _ x s => leaveX s0 x s
  | _ => .stuck
structure Cfg where
  defs : List Def
  mkx : Str → List D → Option Exc
  sub : Str → Str → Option Bool
  fuel : Nat
def Cfg.ct (g : Cfg) (call : Option Exc → Str → List D → Sto → Res D) (hd : Option Exc) : Ct := ⟨call, g.mkx, hd, g.sub, g.fuel⟩
def Cfg.get (g : Cfg) (x : Str) : Option Def := g.defs.find? fun d => decide (d.name = x)
def run (g : Cfg) : Nat → Option Exc → Str → List D → Sto → Res D
  | 0, _, _, _, _ => .stuck
  | k + 1, hd, x, ds, s => match g.get x with
    | none => .stuck
    | some d => if ds.length = d.params ∧ d.params ≤ d.slots ∧ (hd = none ∨ d.hot = true) then finish s d.fresh (exSs (g.ct (run g k) hd) d.body (startE d ds) s) else .stuck
end Pi

set_option maxRecDepth 100000
/-! Pi, part D: how deep values stand in the machine's heap, as HandS tells it. -/
namespace Pi
open PySem PySem.Spec PyProof.Rows L2

/-- what is fixed through a law: the written part, the module's names -/
structure Gn where
  K : PySem.W.Frag
  mg : Str → Option Value

/-- a list, a tuple of the written part -/
def KTup (K : PySem.W.Frag) (a : Addr) (xs : List V) : Prop := ∃ (o : PySem.Obj) (its : Array Value) (n : Nat), K.lookup a = some o ∧ o.cls = .type "tuple" ∧ o.data = .seq its n ∧ its.size ≤ sizeLine ∧ Vals xs its.toList

def KLst (K : PySem.W.Frag) (a : Addr) (xs : List V) : Prop := ∃ (o : PySem.Obj) (its : Array Value) (n : Nat), K.lookup a = some o ∧ o.cls = .type "list" ∧ o.dict = none ∧ o.data = .seq its n ∧ its.size ≤ sizeLine ∧ Vals xs its.toList
mutual
/-- the value v is d: m the addresses of the store's objects, x other addresses that change -/
def DRel (g : Gn) (m x : List Addr) (H : Hp) : D → V → Prop
  | .non, v => v = .non
  | .bl b, v => v = .bl b
  | .int i, v => v = .int i
  | .str s, v => v = .str s
  | .ty t, v => v = .ty t
  | .fn f, v => ∃ a, g.mg f = some (.ref a) ∧ v = .ref a
  | .ref n, v => ∃ a, m[n]? = some a ∧ v = .ref a
  | .exn, _ => False
  | .scr is, v => ∃ a, v = .ref a ∧ ((Rd H a (.lst (is.map .int)) ∧ a ∉ m ∧ a ∉ x) ∨ KLst g.K a (is.map .int))
  | .tup ds, v => ∃ a vs, v = .ref a ∧ ((Rd H a (.tup vs) ∧ a ∉ m) ∨ KTup g.K a vs) ∧ DRels g m x H ds vs
  | .lst ds, v => ∃ a vs, v = .ref a ∧ (Rd H a (.lst vs) ∧ a ∉ m ∧ a ∉ x) ∧ DRels g m x H ds vs
def DRels (g : Gn) (m x : List Addr) (H : Hp) : List D → List V → Prop
  | [], vs => vs = []
  | d :: ds, vs => ∃ v r, vs = v :: r ∧ DRel g m x H d v ∧ DRels g m x H ds r
end

/-- from one state to a later one: what is not in the store stands as it stood; new objects of the store are new -/
structure Step (m : List Addr) (H : Hp) (m' : List Addr) (H' : Hp) : Prop where
  pre : m <+: m'
  keep : ∀ a o, H a = some o → a ∉ m → H' a = some o
  new : ∀ a ∈ m', a ∈ m ∨ H a = none
theorem Step.refl (m : List Addr) (H : Hp) : Step m H m H := ⟨List.prefix_rfl, fun _ _ h _ => h, fun _ h => .inl h⟩
theorem Step.trans {m m1 m2 : List Addr} {H H1 H2 : Hp} (a : Step m H m1 H1) (b : Step m1 H1 m2 H2) : Step m H m2 H2 where
  pre := a.pre.trans b.pre
  keep := fun p o e n => b.keep p o (a.keep p o e n) fun z => by
    rcases a.new p z with z | z
    · exact n z
    · rw [e] at z; cases z
  new := fun p hp => by
    rcases b.new p hp with z | z
    · exact a.new p z
    · by_cases hm : p ∈ m
      · exact .inl hm
      · right
        cases e : H p with
        | none => rfl
        | some o => rw [a.keep p o e hm] at z; cases z
/-- a new object that is not the store's -/
theorem Step.laid {m : List Addr} {H : Hp} {p : Addr} {o : HO} (hp : H p = none) : Step m H m (upd H p o) :=
  ⟨List.prefix_rfl, fun a u e _ => by rw [upd_ne (ne_of_none e hp)]; exact e, fun _ h => .inl h⟩
theorem Step.rd {m m' : List Addr} {H H' : Hp} (s : Step m H m' H') {a : Addr} {u : HO} (r : Rd H a u) (n : a ∉ m) : Rd H' a u := by
  rcases r with r | ⟨o, r⟩
  · exact .inl (s.keep a _ r n)
  · exact .inr ⟨o, s.keep a _ r n⟩
theorem Rd.some {H : Hp} {a : Addr} {u : HO} (r : Rd H a u) : ∃ o, H a = Option.some o := by
  rcases r with r | ⟨o, r⟩
  · exact ⟨_, r⟩
  · exact ⟨_, r⟩
theorem Step.out {m m' : List Addr} {H H' : Hp} (s : Step m H m' H') {a : Addr} {u : HO} (r : Rd H a u) (n : a ∉ m) : a ∉ m' := fun z => by
  obtain ⟨o, e⟩ := Rd.some r
  rcases s.new a z with q | q
  · exact n q
  · rw [e] at q; cases q

section
variable {g : Gn} {m m' x x' : List Addr} {H H' : Hp}
mutual
theorem DRel.step (s : Step m H m' H') : ∀ (d : D) (v : V), DRel g m x H d v → DRel g m' x H' d v
  | .non, _, h | .bl _, _, h | .int _, _, h | .str _, _, h | .ty _, _, h | .fn _, _, h | .exn, _, h => h
  | .scr _, _, h => by
    obtain ⟨a, e, r⟩ := h
    exact ⟨a, e, r.imp (fun ⟨r, n, nx⟩ => ⟨s.rd r n, s.out r n, nx⟩) id⟩
  | .ref n, _, h => by
    obtain ⟨a, e, q⟩ := h
    refine ⟨a, ?_, q⟩
    obtain ⟨t, rfl⟩ := s.pre
    rw [List.getElem?_append_left (List.getElem?_eq_some_iff.mp e).1]; exact e
  | .tup ds, _, h => by
    obtain ⟨a, vs, e, r, q⟩ := h
    refine ⟨a, vs, e, ?_, DRels.step s ds vs q⟩
    rcases r with ⟨r, n⟩ | r
    · exact .inl ⟨s.rd r n, s.out r n⟩
    · exact .inr r
  | .lst ds, _, h => by
    obtain ⟨a, vs, e, r, q⟩ := h
    obtain ⟨r, n, nx⟩ := r
    exact ⟨a, vs, e, ⟨s.rd r n, s.out r n, nx⟩, DRels.step s ds vs q⟩
theorem DRels.step (s : Step m H m' H') : ∀ (ds : List D) (vs : List V), DRels g m x H ds vs → DRels g m' x H' ds vs
  | [], _, h => h
  | d :: ds, _, h => by
    obtain ⟨v, r, e, h1, h2⟩ := h
    exact ⟨v, r, e, DRel.step s d v h1, DRels.step s ds r h2⟩
end
mutual
/-- fewer things change -/
theorem DRel.less (hx : ∀ a ∈ x', a ∈ x) : ∀ (d : D) (v : V), DRel g m x H d v → DRel g m x' H d v
  | .non, _, h | .bl _, _, h | .int _, _, h | .str _, _, h | .ty _, _, h | .fn _, _, h | .exn, _, h | .ref _, _, h => h
  | .scr _, _, h => by
    obtain ⟨a, e, r⟩ := h
    exact ⟨a, e, r.imp (fun ⟨r, n, nx⟩ => ⟨r, n, fun z => nx (hx a z)⟩) id⟩
  | .tup ds, _, h => by
    obtain ⟨a, vs, e, r, q⟩ := h
    exact ⟨a, vs, e, r, DRels.less hx ds vs q⟩
  | .lst ds, _, h => by
    obtain ⟨a, vs, e, r, q⟩ := h
    obtain ⟨r, n, nx⟩ := r
    exact ⟨a, vs, e, ⟨r, n, fun z => nx (hx a z)⟩, DRels.less hx ds vs q⟩
theorem DRels.less (hx : ∀ a ∈ x', a ∈ x) : ∀ (ds : List D) (vs : List V), DRels g m x H ds vs → DRels g m x' H ds vs
  | [], _, h => h
  | d :: ds, _, h => by
    obtain ⟨v, r, e, h1, h2⟩ := h
    exact ⟨v, r, e, DRel.less hx d v h1, DRels.less hx ds r h2⟩
end
mutual
/-- a new address p begins to change: what stood ahead of it does not know it -/
theorem DRel.more {p : Addr} (hp : H p = none) : ∀ (d : D) (v : V), DRel g m x H d v → DRel g m (p :: x) H d v
  | .non, _, h | .bl _, _, h | .int _, _, h | .str _, _, h | .ty _, _, h | .fn _, _, h | .exn, _, h | .ref _, _, h => h
  | .scr _, _, h => by
    obtain ⟨a, e, r⟩ := h
    refine ⟨a, e, r.imp (fun ⟨r, n, nx⟩ => ⟨r, n, fun z => ?_⟩) id⟩
    rcases List.mem_cons.mp z with z | z
    · obtain ⟨o, e⟩ := Rd.some r
      rw [z, hp] at e; cases e
    · exact nx z
  | .tup ds, _, h => by
    obtain ⟨a, vs, e, r, q⟩ := h
    exact ⟨a, vs, e, r, DRels.more hp ds vs q⟩
  | .lst ds, _, h => by
    obtain ⟨a, vs, e, r, q⟩ := h
    obtain ⟨r, n, nx⟩ := r
    refine ⟨a, vs, e, ⟨r, n, fun z => ?_⟩, DRels.more hp ds vs q⟩
    rcases List.mem_cons.mp z with z | z
    · obtain ⟨o, e⟩ := Rd.some r
      rw [z, hp] at e; cases e
    · exact nx z
theorem DRels.more {p : Addr} (hp : H p = none) : ∀ (ds : List D) (vs : List V), DRels g m x H ds vs → DRels g m (p :: x) H ds vs
  | [], _, h => h
  | d :: ds, _, h => by
    obtain ⟨v, r, e, h1, h2⟩ := h
    exact ⟨v, r, e, DRel.more hp d v h1, DRels.more hp ds r h2⟩
end
mutual
/-- an address that changes gets another content: nothing that is told leans on it -/
theorem DRel.turn {p : Addr} {o : HO} (hp : p ∈ x) (hm : ∀ xs, ¬ Rd H p (.tup xs)) : ∀ (d : D) (v : V), DRel g m x H d v → DRel g m x (upd H p o) d v
  | .non, _, h | .bl _, _, h | .int _, _, h | .str _, _, h | .ty _, _, h | .fn _, _, h | .exn, _, h | .ref _, _, h => h
  | .scr _, _, h => by
    obtain ⟨a, e, r⟩ := h
    refine ⟨a, e, r.imp (fun ⟨r, n, nx⟩ => ⟨?_, n, nx⟩) id⟩
    have ne : a ≠ p := fun z => nx (z ▸ hp)
    unfold Rd
    rw [upd_ne ne]
    exact r
  | .tup ds, _, h => by
    obtain ⟨a, vs, e, r, q⟩ := h
    refine ⟨a, vs, e, ?_, DRels.turn hp hm ds vs q⟩
    rcases r with ⟨r, n⟩ | r
    · have ne : a ≠ p := fun z => hm vs (z ▸ r)
      refine .inl ⟨?_, n⟩
      unfold Rd
      rw [upd_ne ne]
      exact r
    · exact .inr r
  | .lst ds, _, h => by
    obtain ⟨a, vs, e, r, q⟩ := h
    obtain ⟨r, n, nx⟩ := r
    have ne : a ≠ p := fun z => nx (z ▸ hp)
    refine ⟨a, vs, e, ⟨?_, n, nx⟩, DRels.turn hp hm ds vs q⟩
    unfold Rd
    rw [upd_ne ne]
    exact r
theorem DRels.turn {p : Addr} {o : HO} (hp : p ∈ x) (hm : ∀ xs, ¬ Rd H p (.tup xs)) : ∀ (ds : List D) (vs : List V), DRels g m x H ds vs → DRels g m x (upd H p o) ds vs
  | [], _, h => h
  | d :: ds, _, h => by
    obtain ⟨v, r, e, h1, h2⟩ := h
    exact ⟨v, r, e, DRel.turn hp hm d v h1, DRels.turn hp hm ds r h2⟩
end
mutual
/-- an object of the store is changed -/
theorem DRel.wrote {p : Addr} {o : HO} (hp : p ∈ m) : ∀ (d : D) (v : V), DRel g m x H d v → DRel g m x (upd H p o) d v
  | .non, _, h | .bl _, _, h | .int _, _, h | .str _, _, h | .ty _, _, h | .fn _, _, h | .exn, _, h | .ref _, _, h => h
  | .scr _, _, h => by
    obtain ⟨a, e, r⟩ := h
    refine ⟨a, e, r.imp (fun ⟨r, n, nx⟩ => ⟨?_, n, nx⟩) id⟩
    have ne : a ≠ p := fun z => n (z ▸ hp)
    unfold Rd
    rw [upd_ne ne]
    exact r
  | .tup ds, _, h => by
    obtain ⟨a, vs, e, r, q⟩ := h
    refine ⟨a, vs, e, ?_, DRels.wrote hp ds vs q⟩
    rcases r with ⟨r, n⟩ | r
    · have ne : a ≠ p := fun z => n (z ▸ hp)
      refine .inl ⟨?_, n⟩
      unfold Rd
      rw [upd_ne ne]
      exact r
    · exact .inr r
  | .lst ds, _, h => by
    obtain ⟨a, vs, e, r, q⟩ := h
    obtain ⟨r, n, nx⟩ := r
    have ne : a ≠ p := fun z => n (z ▸ hp)
    refine ⟨a, vs, e, ⟨?_, n, nx⟩, DRels.wrote hp ds vs q⟩
    unfold Rd
    rw [upd_ne ne]
    exact r
theorem DRels.wrote {p : Addr} {o : HO} (hp : p ∈ m) : ∀ (ds : List D) (vs : List V), DRels g m x H ds vs → DRels g m x (upd H p o) ds vs
  | [], _, h => h
  | d :: ds, _, h => by
    obtain ⟨v, r, e, h1, h2⟩ := h
    exact ⟨v, r, e, DRel.wrote hp d v h1, DRels.wrote hp ds r h2⟩
end
mutual
/-- x's first address becomes the store's newest object -/
theorem DRel.join {p : Addr} (hp : ∀ xs, ¬ Rd H p (.tup xs)) : ∀ (d : D) (v : V), DRel g m (p :: x) H d v → DRel g (m ++ [p]) x H d v
  | .non, _, h | .bl _, _, h | .int _, _, h | .str _, _, h | .ty _, _, h | .fn _, _, h | .exn, _, h => h
  | .scr _, _, h => by
    obtain ⟨a, e, r⟩ := h
    refine ⟨a, e, r.imp (fun ⟨r, n, nx⟩ => ⟨r, fun z => ?_, fun z => nx (List.mem_cons_of_mem _ z)⟩) id⟩
    rcases List.mem_append.mp z with z | z
    · exact n z
    · have : a = p := by simpa using z
      exact nx (this ▸ List.mem_cons_self)
  | .ref n, _, h => by
    obtain ⟨a, e, q⟩ := h
    refine ⟨a, ?_, q⟩
    rw [List.getElem?_append_left (List.getElem?_eq_some_iff.mp e).1]; exact e
  | .tup ds, _, h => by
    obtain ⟨a, vs, e, r, q⟩ := h
    refine ⟨a, vs, e, ?_, DRels.join hp ds vs q⟩
    rcases r with ⟨r, n⟩ | r
    · refine .inl ⟨r, fun z => ?_⟩
      rcases List.mem_append.mp z with z | z
      · exact n z
      · have : a = p := by simpa using z
        exact hp vs (this ▸ r)
    · exact .inr r
  | .lst ds, _, h => by
    obtain ⟨a, vs, e, r, q⟩ := h
    obtain ⟨r, n, nx⟩ := r
    refine ⟨a, vs, e, ⟨r, fun z => ?_, fun z => nx (List.mem_cons_of_mem _ z)⟩, DRels.join hp ds vs q⟩
    rcases List.mem_append.mp z with z | z
    · exact n z
    · have : a = p := by simpa using z
      exact nx (this ▸ List.mem_cons_self)
theorem DRels.join {p : Addr} (hp : ∀ xs, ¬ Rd H p (.tup xs)) : ∀ (ds : List D) (vs : List V), DRels g m (p :: x) H ds vs → DRels g (m ++ [p]) x H ds vs
  | [], _, h => h
  | d :: ds, _, h => by
    obtain ⟨v, r, e, h1, h2⟩ := h
    exact ⟨v, r, e, DRel.join hp d v h1, DRels.join hp ds r h2⟩
end

theorem DRels.length : ∀ {ds : List D} {vs : List V}, DRels g m x H ds vs → ds.length = vs.length
  | [], _, h => by rw [show _ = [] from h]; rfl
  | d :: ds, _, h => by
    obtain ⟨v, r, rfl, _, h2⟩ := h
    simp [DRels.length h2]
theorem DRels.get : ∀ {ds : List D} {vs : List V} {i : Nat} {d : D}, DRels g m x H ds vs → ds[i]? = some d → ∃ v, vs[i]? = some v ∧ DRel g m x H d v
  | [], _, _, _, _, e => by simp at e
  | d :: ds, _, 0, _, h, e => by
    obtain ⟨v, r, rfl, h1, _⟩ := h
    simp at e; subst e
    exact ⟨v, rfl, h1⟩
  | d :: ds, _, i + 1, _, h, e => by
    obtain ⟨v, r, rfl, _, h2⟩ := h
    obtain ⟨w, e1, e2⟩ := DRels.get (i := i) h2 (by simpa using e)
    exact ⟨w, by simpa using e1, e2⟩
theorem DRels.append : ∀ {ds es : List D} {vs ws : List V}, DRels g m x H ds vs → DRels g m x H es ws → DRels g m x H (ds ++ es) (vs ++ ws)
  | [], _, _, _, h, q => by rw [show _ = [] from h]; exact q
  | d :: ds, _, _, _, h, q => by
    obtain ⟨v, r, rfl, h1, h2⟩ := h
    exact ⟨v, _, rfl, h1, DRels.append h2 q⟩
theorem DRels.take : ∀ {ds : List D} {vs : List V} (n : Nat), DRels g m x H ds vs → DRels g m x H (ds.take n) (vs.take n)
  | _, _, 0, _ => by simp [DRels]
  | [], _, n + 1, h => by rw [show _ = [] from h]; simp [DRels]
  | d :: ds, _, n + 1, h => by
    obtain ⟨v, r, rfl, h1, h2⟩ := h
    exact ⟨v, _, rfl, h1, DRels.take n h2⟩
theorem DRels.drop : ∀ {ds : List D} {vs : List V} (n : Nat), DRels g m x H ds vs → DRels g m x H (ds.drop n) (vs.drop n)
  | _, _, 0, h => h
  | [], _, n + 1, h => by rw [show _ = [] from h]; simp [DRels]
  | d :: ds, _, n + 1, h => by
    obtain ⟨v, r, rfl, h1, h2⟩ := h
    exact DRels.drop n h2
theorem DRels.set : ∀ {ds : List D} {vs : List V} {d : D} {v : V} (n : Nat), DRels g m x H ds vs → DRel g m x H d v → DRels g m x H (ds.set n d) (vs.set n v)
  | [], _, _, _, n, h, _ => by rw [show _ = [] from h]; simp [DRels]
  | d :: ds, _, _, _, 0, h, q => by
    obtain ⟨v, r, rfl, h1, h2⟩ := h
    exact ⟨_, _, rfl, q, h2⟩
  | d :: ds, _, _, _, n + 1, h, q => by
    obtain ⟨v, r, rfl, h1, h2⟩ := h
    exact ⟨_, _, rfl, h1, DRels.set n h2 q⟩
theorem DRels.reverse : ∀ {ds : List D} {vs : List V}, DRels g m x H ds vs → DRels g m x H ds.reverse vs.reverse
  | [], _, h => by rw [show _ = [] from h]; simp [DRels]
  | d :: ds, _, h => by
    obtain ⟨v, r, rfl, h1, h2⟩ := h
    rw [List.reverse_cons, List.reverse_cons]
    exact DRels.append (DRels.reverse h2) ⟨_, _, rfl, h1, rfl⟩
theorem DRels.dropLast {ds : List D} {vs : List V} (h : DRels g m x H ds vs) : DRels g m x H ds.dropLast vs.dropLast := by
  rw [List.dropLast_eq_take, List.dropLast_eq_take, h.length]
  exact h.take _
theorem DRels.rep {ds : List D} {vs : List V} (h : DRels g m x H ds vs) : ∀ k : Nat, DRels g m x H (List.replicate k ds).flatten (List.replicate k vs).flatten
  | 0 => by simp [DRels]
  | k + 1 => by
    rw [List.replicate_succ, List.replicate_succ, List.flatten_cons, List.flatten_cons]
    exact h.append (DRels.rep h k)
theorem DRels.ints : ∀ {is : List Int} {vs : List V}, DRels g m x H (is.map .int) vs → vs = is.map .int
  | [], _, h => h
  | i :: is, _, h => by
    obtain ⟨v, r, rfl, h1, h2⟩ := h
    rw [List.map_cons, DRels.ints h2, show v = .int i from h1]
theorem DRels.of_ints : ∀ (is : List Int), DRels g m x H (is.map .int) (is.map .int)
  | [] => rfl
  | i :: is => ⟨_, _, rfl, rfl, DRels.of_ints is⟩
end

/-! ### the store -/
def ORel (g : Gn) (m x : List Addr) (H : Hp) (o : Ob) (a : Addr) : Prop := match o with
  | .lst ds => ∃ vs, H a = some (.lst vs) ∧ DRels g m x H ds vs
  | .ins _ _ => False
structure SRel (g : Gn) (m x : List Addr) (H : Hp) (s : Sto) : Prop where
  len : m.length = s.length
  nd : m.Nodup
  obj : ∀ (i : Nat) (o : Ob) (a : Addr), s[i]? = some o → m[i]? = some a → ORel g m x H o a
  xs : ∀ a ∈ x, ∃ o, H a = some o ∧ ∀ xs, o ≠ .tup xs ∧ ∀ ob, o ≠ .frz ob (.tup xs)
  ap : ∀ a ∈ x, a ∉ m
end Pi

set_option maxRecDepth 100000
/-! Pi, part E: readings by what is evaluated; how they are chained. -/
namespace Pi
open PySem PySem.Spec PyProof.Rows L2

def XRel (g : Gn) (m x : List Addr) (H : Hp) (xc : Exc) (dopt : Option Addr) : Prop :=
  (xc.fs = [] ∧ dopt = none) ∨ (xc.fs ≠ [] ∧ ∃ dx fv, dopt = some dx ∧ H dx = some (.xd fv) ∧ dx ∉ m ∧ ∀ f d, xc.fs.lookup f = some d → ∃ v, fv.lookup f = some v ∧ DRel g m x H d v)
/-- the handled exception: where it stands, what it is, its dict -/
structure HotI where
  a : Addr
  xc : Exc
  dx : Option Addr
section
variable (g : Gn) (hot : Option HotI)
def DX (m x : List Addr) (H : Hp) (d : D) (v : V) : Prop := (d = .exn ∧ ∃ p, hot = some p ∧ v = .ref p.a ∧ XRel g m x H p.xc p.dx) ∨ DRel g m x H d v
def DXs (m x : List Addr) (H : Hp) : List D → List V → Prop
  | [], vs => vs = []
  | d :: ds, vs => ∃ v r, vs = v :: r ∧ DX g hot m x H d v ∧ DXs m x H ds r
structure ERel (m x : List Addr) (H : Hp) (e : Env) (σ : L2.St) : Prop where
  len : e.length = σ.length
  at_ : ∀ (i : Nat) (d : D), e[i]? = some (some d) → ∃ v, σ[i]? = some (some v) ∧ DX g hot m x H d v
structure Rl (m x : List Addr) (H : Hp) (e : Env) (s : Sto) (σ : L2.St) : Prop where
  er : ERel g hot m x H e σ
  sr : SRel g m x H s
/-- what is wished behind an evaluation -/
def Pst (W : WX) (m x : List Addr) (σ : L2.St) (H : Hp) {α β : Type} (rel : List Addr → List Addr → Hp → α → β → Prop) (Q : β → Hp → Prop) : Res α → Prop
  | .ok a s' => ∀ m' H' b, Step m H m' H' → SRel g m' x H' s' → rel m' x H' a b → Q b H'
  | .exc xc s' => ∀ m' H' u dopt, Step m H m' H' → SRel g m' x H' s' → g.mg xc.cls = some u → XRel g m' x H' xc dopt → W u dopt σ H'
  | .stuck => False
/-- the reading -/
def Rd' (W : WX) {α β : Type} (rel : List Addr → List Addr → Hp → α → β → Prop) (f : Env → Sto → Res α) : L2.St → Hp → (β → Hp → Prop) → Prop :=
  fun σ H Q => ∃ m x e s, Rl g hot m x H e s σ ∧ Pst g W m x σ H rel Q (f e s)
abbrev rdE (W : WX) (f : Env → Sto → Res D) : TE := Rd' g hot W (DX g hot) f
abbrev rdL (W : WX) (f : Env → Sto → Res (List D)) : TA := Rd' g hot W (DXs g hot) f
abbrev rdT (W : WX) (f : Env → Sto → Res Bool) : TT := Rd' g hot W (fun _ _ _ a b => a = b) f
end

section
variable {g : Gn} {hot : Option HotI} {W : WX} {m m' x : List Addr} {H H' : Hp} {σ : L2.St} {e : Env} {s : Sto}
theorem XRel.step (st : Step m H m' H') {xc : Exc} {dopt : Option Addr} (h : XRel g m x H xc dopt) : XRel g m' x H' xc dopt := by
  rcases h with h | ⟨n, dx, fv, e, h, hm, q⟩
  · exact .inl h
  · refine .inr ⟨n, dx, fv, e, st.keep _ _ h hm, fun z => ?_, fun f d hf => ?_⟩
    · rcases st.new _ z with z | z
      · exact hm z
      · rw [h] at z; cases z
    · obtain ⟨v, q1, q2⟩ := q f d hf
      exact ⟨v, q1, q2.step st⟩
theorem DX.step (st : Step m H m' H') {d : D} {v : V} (h : DX g hot m x H d v) : DX g hot m' x H' d v := h.imp (fun ⟨e, p, h1, h2, h3⟩ => ⟨e, p, h1, h2, h3.step st⟩) fun h => h.step st
theorem DXs.step (st : Step m H m' H') : ∀ {ds : List D} {vs : List V}, DXs g hot m x H ds vs → DXs g hot m' x H' ds vs
  | [], _, h => h
  | _ :: _, _, ⟨v, r, e, h1, h2⟩ => ⟨v, r, e, h1.step st, DXs.step st h2⟩
theorem ERel.step (st : Step m H m' H') (h : ERel g hot m x H e σ) : ERel g hot m' x H' e σ := ⟨h.len, fun i d q => let ⟨v, a, b⟩ := h.at_ i d q; ⟨v, a, b.step st⟩⟩
theorem Rl.step {s' : Sto} (h : Rl g hot m x H e s σ) (st : Step m H m' H') (sr : SRel g m' x H' s') : Rl g hot m' x H' e s' σ := ⟨h.er.step st, sr⟩
theorem Pst.step {α β : Type} {rel : List Addr → List Addr → Hp → α → β → Prop} {Q : β → Hp → Prop} {r : Res α} (P : Pst g W m x σ H rel Q r) (st : Step m H m' H') : Pst g W m' x σ H' rel Q r := by
  cases r with
  | ok a s' => exact fun m2 H2 b st2 => P m2 H2 b (st.trans st2)
  | exc xc s' => exact fun m2 H2 u d st2 => P m2 H2 u d (st.trans st2)
  | stuck => exact P
theorem Pst.imp {α β : Type} {rel : List Addr → List Addr → Hp → α → β → Prop} {Q Q' : β → Hp → Prop} {r : Res α} (P : Pst g W m x σ H rel Q r) (h : ∀ b H', Q b H' → Q' b H') : Pst g W m x σ H rel Q' r := by
  cases r with
  | ok a s' => exact fun m2 H2 b st sr ra => h _ _ (P m2 H2 b st sr ra)
  | exc xc s' => exact P
  | stuck => exact P
theorem Pst.bind {α β γ δ : Type} {rel : List Addr → List Addr → Hp → α → β → Prop} {rel' : List Addr → List Addr → Hp → γ → δ → Prop} {Q : δ → Hp → Prop} {r : Res α} {k : α → Sto → Res γ}
    (P : Pst g W m x σ H rel' Q (r.bind k)) :
    Pst g W m x σ H rel (fun b H' => ∃ a s' m', Step m H m' H' ∧ SRel g m' x H' s' ∧ rel m' x H' a b ∧ Pst g W m' x σ H' rel' Q (k a s')) r := by
  cases r with
  | ok a s' => exact fun m2 H2 b st sr ra => ⟨a, s', m2, st, sr, ra, P.step st⟩
  | exc xc s' => exact P
  | stuck => exact P
/-- two readings in a row -/
theorem Rd'.bind {α β γ δ : Type} {rel : List Addr → List Addr → Hp → α → β → Prop} {rel' : List Addr → List Addr → Hp → γ → δ → Prop} {Q : δ → Hp → Prop} {f : Env → Sto → Res α} {k : Env → α → Sto → Res γ} {Q' : β → Hp → Prop}
    (h : Rd' g hot W rel' (fun e s => (f e s).bind (k e)) σ H Q)
    (hk : ∀ m x e a b s H1, Rl g hot m x H1 e s σ → rel m x H1 a b → Pst g W m x σ H1 rel' Q (k e a s) → Q' b H1) : Rd' g hot W rel f σ H Q' := by
  obtain ⟨m, x, e, s, rl, P⟩ := h
  exact ⟨m, x, e, s, rl, (Pst.bind P).imp fun b H1 ⟨a, s1, m1, st, sr, ra, P1⟩ => hk m1 x e a b s1 H1 (rl.step st sr) ra P1⟩
theorem Pst.ok {α β : Type} {rel : List Addr → List Addr → Hp → α → β → Prop} {Q : β → Hp → Prop} {a : α} {b : β} (P : Pst g W m x σ H rel Q (.ok a s)) (sr : SRel g m x H s) (ra : rel m x H a b) : Q b H := P m H b (Step.refl m H) sr ra
theorem Pst.of {α β : Type} {rel : List Addr → List Addr → Hp → α → β → Prop} {Q : β → Hp → Prop} {o : Option α} (P : Pst g W m x σ H rel Q (Res.of o s)) : ∃ a, o = some a ∧ Pst g W m x σ H rel Q (.ok a s) := by
  cases o with
  | none => exact P.elim
  | some a => exact ⟨a, rfl, P⟩

theorem SRel.has (sr : SRel g m x H s) {a : Addr} (h : a ∈ m) : ∃ vs, H a = some (.lst vs) := by
  obtain ⟨i, hi, e⟩ := List.mem_iff_getElem.mp h
  have hs : i < s.length := by rw [← sr.len]; exact hi
  have q := sr.obj i s[i] a (List.getElem?_eq_getElem hs) (by rw [List.getElem?_eq_getElem hi, e])
  unfold ORel at q
  split at q
  · obtain ⟨vs, q, _⟩ := q
    exact ⟨_, q⟩
  · exact q.elim
theorem SRel.fresh (sr : SRel g m x H s) {p : Addr} (hp : H p = none) : p ∉ m ∧ p ∉ x := by
  refine ⟨fun h => ?_, fun h => ?_⟩
  · obtain ⟨vs, e⟩ := sr.has h
    rw [hp] at e; cases e
  · obtain ⟨o, e, _⟩ := sr.xs p h
    rw [hp] at e; cases e
theorem ORel.step (st : Step m H m' H') {o : Ob} {a : Addr} (h : ORel g m x H o a) (ha : H' a = H a) : ORel g m' x H' o a := by
  unfold ORel at *
  split at h
  · obtain ⟨vs, e, q⟩ := h
    exact ⟨vs, ha.trans e, q.step st⟩
  · exact h
/-- a new object that is not the store's -/
theorem SRel.laid (sr : SRel g m x H s) {p : Addr} {o : HO} (hp : H p = none) : SRel g m x (upd H p o) s where
  len := sr.len
  nd := sr.nd
  obj := fun i ob a h1 h2 => (sr.obj i ob a h1 h2).step (Step.laid hp) (upd_ne fun z => (sr.fresh hp).1 (z ▸ List.mem_of_getElem? h2))
  xs := fun a h => by
    obtain ⟨u, e, q⟩ := sr.xs a h
    exact ⟨u, by rw [upd_ne (ne_of_none e hp)]; exact e, q⟩
  ap := sr.ap
/-- a new tuple -/
theorem DRel.newTup (sr : SRel g m x H s) {p : Addr} (hp : H p = none) {ds : List D} {vs : List V} (h : DRels g m x H ds vs) : DRel g m x (upd H p (.tup vs)) (.tup ds) (.ref p) :=
  ⟨p, vs, rfl, .inl ⟨.inl upd_same, (sr.fresh hp).1⟩, h.step (Step.laid hp)⟩
theorem DRel.newLst (sr : SRel g m x H s) {p : Addr} (hp : H p = none) {ds : List D} {vs : List V} (h : DRels g m x H ds vs) : DRel g m x (upd H p (.lst vs)) (.lst ds) (.ref p) :=
  ⟨p, vs, rfl, ⟨.inl upd_same, (sr.fresh hp).1, (sr.fresh hp).2⟩, h.step (Step.laid hp)⟩
theorem Pst.tup {Q : VK} {ds : List D} {vs : List V} {p : Addr} (P : Pst g W m x σ H (DX g hot) Q (.ok (.tup ds) s)) (sr : SRel g m x H s) (h : DRels g m x H ds vs) (hp : H p = none) : Q (.ref p) (upd H p (.tup vs)) :=
  P m _ _ (Step.laid hp) (sr.laid hp) (.inr (DRel.newTup sr hp h))
theorem Pst.lst {Q : VK} {ds : List D} {vs : List V} {p : Addr} (P : Pst g W m x σ H (DX g hot) Q (.ok (.lst ds) s)) (sr : SRel g m x H s) (h : DRels g m x H ds vs) (hp : H p = none) : Q (.ref p) (upd H p (.lst vs)) :=
  P m _ _ (Step.laid hp) (sr.laid hp) (.inr (DRel.newLst sr hp h))

/-! ### what a value is -/
theorem DX.ne {d : D} {v : V} (h : DX g hot m x H d v) (n : d ≠ .exn) : DRel g m x H d v := h.elim (fun ⟨e, _⟩ => absurd e n) id
theorem KTup.sq {K : PySem.W.Frag} {a : Addr} {xs : List V} (h : KTup K a xs) : SqT K H a xs := .inr h
theorem listOf_rel (sr : SRel g m x H s) {d : D} {v : V} {ds : List D} (h : DX g hot m x H d v) (e : listOf s d = some ds) : ∃ a vs, v = .ref a ∧ Rd H a (.lst vs) ∧ DRels g m x H ds vs := by
  unfold listOf at e
  split at e
  · cases e
    obtain ⟨a, vs, e, r, q⟩ := h.ne (by simp)
    exact ⟨a, vs, e, r.1, q⟩
  · rename_i n
    split at e
    · rename_i ds' hs
      cases e
      obtain ⟨a, hm, e⟩ := h.ne (by simp)
      obtain ⟨vs, q1, q2⟩ := sr.obj n _ a hs hm
      exact ⟨a, vs, e, .inl q1, q2⟩
    · cases e
  · cases e
theorem tup_rel {d : D} {v : V} {ds : List D} (h : DX g hot m x H d v) (e : d = .tup ds) : ∃ a vs, v = .ref a ∧ SqT g.K H a vs ∧ DRels g m x H ds vs := by
  subst e
  obtain ⟨a, vs, e, r, q⟩ := h.ne (by simp)
  exact ⟨a, vs, e, r.elim (fun r => .inl r.1) .inr, q⟩
theorem seqOf_rel (sr : SRel g m x H s) {d : D} {v : V} {ds : List D} (h : DX g hot m x H d v) (e : seqOf s d = some ds) : ∃ a vs, v = .ref a ∧ (SqL g.K H a vs ∨ SqT g.K H a vs) ∧ DRels g m x H ds vs := by
  unfold seqOf at e
  split at e
  · cases e
    obtain ⟨a, vs, h1, h2, h3⟩ := tup_rel h rfl
    exact ⟨a, vs, h1, .inr h2, h3⟩
  · obtain ⟨a, vs, h1, h2, h3⟩ := listOf_rel sr h e
    exact ⟨a, vs, h1, .inl (.inl h2), h3⟩
end

theorem _root_.L2.PE.imp {X : L2.Cx} {e : Expr} {t t' : TE} (h : PE X e t) (i : ∀ σ H Q, t' σ H Q → t σ H Q) : PE X e t' := ⟨fun pins s σ H Q I q => h.run pins s σ H Q I (i σ H Q q)⟩
theorem _root_.L2.PT.imp {X : L2.Cx} {e : Expr} {t t' : TT} (h : PT X e t) (i : ∀ σ H Q, t' σ H Q → t σ H Q) : PT X e t' := ⟨fun pins s σ H Q I q => h.run pins s σ H Q I (i σ H Q q)⟩
theorem _root_.L2.PA.imp {X : L2.Cx} {e : List Expr} {t t' : TA} (h : PA X e t) (i : ∀ σ H Q, t' σ H Q → t σ H Q) : PA X e t' := ⟨fun po pins s σ H Q I q => h.run po pins s σ H Q I (i σ H Q q)⟩
theorem _root_.L2.PS.imp {X : L2.Cx} {e : Stmt} {t t' : TS} (h : PS X e t) (i : ∀ D σ H, t' D σ H → t D σ H) : PS X e t' := ⟨fun pins s σ H D I q => h.run pins s σ H D I (i D σ H q)⟩
theorem _root_.L2.PSs.imp {X : L2.Cx} {e : List Stmt} {t t' : TS} (h : PSs X e t) (i : ∀ D σ H, t' D σ H → t D σ H) : PSs X e t' := ⟨fun pins s σ H D I q => h.run pins s σ H D I (i D σ H q)⟩
theorem _root_.L2.OpR.or0 {X : L2.Cx} {f : Value → Value → Sem Value} {r r' : R2} (h : OpR X f r) (h' : OpR X f r') : OpR X f (fun x y H Q => r x y H Q ∨ r' x y H Q) := by
  intro pins s σ H x y v u Q I rx ry hq
  rcases hq with q | q
  · exact h pins s σ H x y v u Q I rx ry q
  · exact h' pins s σ H x y v u Q I rx ry q
end Pi

set_option maxRecDepth 100000
/-! Pi, part F: operators, comparisons, subscripts on values. -/
namespace Pi
open PySem PySem.Spec PyProof.Rows L2

/-- what a primitive gives: an old thing, a new tuple, a new list -/
def Gv (g : Gn) (hot : Option HotI) (m x : List Addr) (H : Hp) (d : D) (v : V) (H' : Hp) : Prop :=
  (H' = H ∧ (∀ ds, d ≠ .lst ds) ∧ DX g hot m x H d v) ∨
  (∃ p vs ds, d = .tup ds ∧ v = .ref p ∧ H p = none ∧ H' = upd H p (.tup vs) ∧ DRels g m x H ds vs) ∨
  (∃ p vs ds, d = .lst ds ∧ v = .ref p ∧ H p = none ∧ H' = upd H p (.lst vs) ∧ DRels g m x H ds vs)
section
variable {g : Gn} {hot : Option HotI} {m m' x : List Addr} {H H' : Hp} {σ : L2.St} {s : Sto} {d : D} {v : V}
theorem Gv.int {i : Int} : Gv g hot m x H (.int i) (.int i) H := .inl ⟨rfl, by simp, .inr rfl⟩
theorem Gv.bl {i : Bool} : Gv g hot m x H (.bl i) (.bl i) H := .inl ⟨rfl, by simp, .inr rfl⟩
theorem Gv.str {i : Str} : Gv g hot m x H (.str i) (.str i) H := .inl ⟨rfl, by simp, .inr rfl⟩
theorem Gv.non : Gv g hot m x H .non .non H := .inl ⟨rfl, by simp, .inr rfl⟩
theorem Gv.tup {p : Addr} {ds : List D} {vs : List V} (hp : H p = none) (h : DRels g m x H ds vs) : Gv g hot m x H (.tup ds) (.ref p) (upd H p (.tup vs)) := .inr (.inl ⟨p, vs, ds, rfl, rfl, hp, rfl, h⟩)
theorem Gv.lst {p : Addr} {ds : List D} {vs : List V} (hp : H p = none) (h : DRels g m x H ds vs) : Gv g hot m x H (.lst ds) (.ref p) (upd H p (.lst vs)) := .inr (.inr ⟨p, vs, ds, rfl, rfl, hp, rfl, h⟩)
theorem Gv.old (h : DX g hot m x H d v) (n : ∀ ds, d ≠ .lst ds) : Gv g hot m x H d v H := .inl ⟨rfl, n, h⟩
theorem Gv.steps (sr : SRel g m x H s) (h : Gv g hot m x H d v H') : Step m H m H' ∧ SRel g m x H' s ∧ DX g hot m x H' d v := by
  rcases h with ⟨rfl, _, h⟩ | ⟨p, vs, ds, rfl, rfl, hp, rfl, h⟩ | ⟨p, vs, ds, rfl, rfl, hp, rfl, h⟩
  · exact ⟨Step.refl _ _, sr, h⟩
  · exact ⟨Step.laid hp, sr.laid hp, .inr (DRel.newTup sr hp h)⟩
  · exact ⟨Step.laid hp, sr.laid hp, .inr (DRel.newLst sr hp h)⟩
theorem DX.int {i : Int} (h : DX g hot m x H (.int i) v) : v = .int i := h.ne (by simp)
theorem DX.str {i : Str} (h : DX g hot m x H (.str i) v) : v = .str i := h.ne (by simp)
theorem DX.bl {i : Bool} (h : DX g hot m x H (.bl i) v) : v = .bl i := h.ne (by simp)
theorem DX.non (h : DX g hot m x H .non v) : v = .non := h.ne (by simp)
end

section
variable {X : L2.Cx} {pins : List (Addr × PySem.Obj)} {σ : L2.St} {H : Hp} {s : Shared} {a : Addr} {xs : List V}
/-- a list as it stands in the machine -/
theorem rdl (I : Inv X pins σ H s) (h : Rd H a (.lst xs)) : xs.length ≤ sizeLine ∧ ∃ (its : List Value) (n : Nat), Vals xs its ∧ xs.length = its.length ∧ s.heap.get? a = some { cls := .type "list", data := .seq its.toArray n } := by
  obtain ⟨z, its, n, r, e⟩ := h.ok I.hok
  exact ⟨z, its, n, r, r.length, e⟩
theorem Inv.freshA (I : Inv X pins σ H s) : H s.heap.objs.size = none := I.hok.fresh (Nat.le_refl _)
end
section
variable {X : L2.Cx}
def rCatL : R2 := fun x y H Q => ∃ l b xs zs, x = .ref l ∧ y = .ref b ∧ Rd H l (.lst xs) ∧ Rd H b (.lst zs) ∧ xs.length + zs.length ≤ sizeLine ∧ ∀ p, H p = none → Q (.ref p) (upd H p (.lst (xs ++ zs)))
theorem op_catL : OpR X (binaryOp .Add) rCatL := by
  intro pins s σ H x y v u Q I rx ry h
  obtain ⟨l, b, xs, zs, rfl, rfl, hH, hB, hz, q⟩ := h
  cases rx
  cases ry
  obtain ⟨z, its, n, r, hl, e⟩ := rdl I hH
  obtain ⟨z2, its2, n2, r2, hl2, e2⟩ := rdl I hB
  refine PySem.P.add_list e e2 ?_ (by rw [List.size_toArray, List.size_toArray]; omega)
  have ea : its.toArray ++ its2.toArray = (its ++ its2).toArray := by simp
  rw [ea]
  exact ⟨.ref _, _, I.lnew (t' := s.toks) (r.append r2) (by rw [List.length_append]; omega), rfl, q _ (Inv.freshA I)⟩
def rRepL : R2 := fun x y H Q => ∃ l k xs, x = .ref l ∧ y = .int k ∧ Rd H l (.lst xs) ∧ -(2 ^ 63) ≤ k ∧ k < 2 ^ 63 ∧ xs.length * k.toNat ≤ sizeLine ∧
  ∀ p, H p = none → Q (.ref p) (upd H p (.lst (List.replicate k.toNat xs).flatten))
theorem op_repL : OpR X (binaryOp .Mult) rRepL := by
  intro pins s σ H x y v u Q I rx ry h
  obtain ⟨l, k, xs, rfl, rfl, hH, h1, h2, hz, q⟩ := h
  cases rx
  obtain ⟨t, rfl⟩ := ry
  obtain ⟨z, its, n, r, hl, e⟩ := rdl I hH
  have hlen : its.toArray.size * k.toNat ≤ sizeLine := by rw [List.size_toArray, ← hl]; exact hz
  have hcap : ¬ its.toArray.size * k.toNat > (2 ^ 63 - 1) / 8 := by
    have : (sizeLine : Nat) ≤ (2 ^ 63 - 1) / 8 := by decide
    omega
  have hfit : ¬ (!Builtin.List.listFitsIndex k) = true := by
    rw [fitsIndex_both h1 h2]
    exact Bool.false_ne_true
  have hlong : ¬ Builtin.List.listTooLong (its.toArray.size * k.toNat) = true := by
    rw [notLongL hlen]
    exact Bool.false_ne_true
  have hnew : List.foldl (fun x1 x2 => x1 ++ x2) #[] (List.replicate (if its.toArray.isEmpty = true then 0 else k.toNat) its.toArray) = (List.replicate k.toNat its).flatten.toArray := by
    have f0 : ∀ m : Nat, List.foldl (fun x1 x2 => x1 ++ x2) #[] (List.replicate m its.toArray) = (List.replicate m its).flatten.toArray := fun m => by
      have := foldl_rep its m []
      rw [List.nil_append] at this
      exact this
    rw [f0]
    cases its with
    | nil => simp
    | cons a r' => rw [if_neg (by simp)]
  refine wpAny_binaryOp_repeat_ref (T := "list") (U := "int") (by decide) ⟨_, e, rfl⟩ (fun s' => typeIs_int s' k t) noFill_list_mul F.fills_int_mul F.slot_int_rmul repeat_list F.slot_int_index.lookup
    (call_meets F.slot_int_rmul (typeIs_int s k t) F.entry_int_rmul (F.args_int_rmul_2 _ _) (int___rmul___int_list k t l its.toArray n)
      ⟨e, rfl, ⟨_, e, rfl⟩, call_meets F.slot_list_mul ⟨_, e, rfl⟩ F.entry_list_mul (F.args_list_mul_2 _ _) (AutoListH.list___mul___list_int_3 l its.toArray n k t hfit hcap hlong) ⟨e, ?_⟩⟩)
  rw [hnew]
  exact ⟨.ref _, _, I.lnew (t' := s.toks) (r.rep k.toNat) (by rw [PyProof.Rows.lm_len_rep_flat, Nat.mul_comm]; exact hz), rfl, q _ (Inv.freshA I)⟩

/-- a primitive of two values -/
def rPr (g : Gn) (hot : Option HotI) (p : Sto → D → D → Option D) : R2 := fun a b H Q => ∃ m x s d1 d2 d, SRel g m x H s ∧ DX g hot m x H d1 a ∧ DX g hot m x H d2 b ∧ p s d1 d2 = some d ∧ ∀ v H', Gv g hot m x H d v H' → Q v H'

theorem Rd.sq {K : PySem.W.Frag} {H : Hp} {a : Addr} {xs : List V} (h : Rd H a (.lst xs)) : SqL K H a xs := .inl h

theorem op_bin {g : Gn} (hK : X.K = g.K) {hot : Option HotI} (op : Operator) : OpR X (binaryOp op) (rPr g hot (binD op)) := by
  intro pins sh σ H x y v u Q I rx ry h
  obtain ⟨m, xx, s, d1, d2, d, sr, h1, h2, e, q⟩ := h
  unfold binD at e
  split at e
  · cases e; cases h1.int; cases h2.int
    exact op_add pins sh σ H _ _ v u Q I rx ry ⟨_, _, rfl, rfl, q _ _ Gv.int⟩
  · cases e; cases h1.int; cases h2.int
    exact op_sub pins sh σ H _ _ v u Q I rx ry ⟨_, _, rfl, rfl, q _ _ Gv.int⟩
  · split at e
    · rename_i c
      cases e; cases h1.int; cases h2.int
      exact op_mulW pins sh σ H _ _ v u Q I rx ry ⟨_, _, rfl, rfl, by simpa [mulOk, CMulW] using c, q _ _ Gv.int⟩
    · cases e
  · split at e
    · rename_i c
      cases e; cases h1.int; cases h2.int
      exact op_fdivW pins sh σ H _ _ v u Q I rx ry ⟨_, _, rfl, rfl, by simpa [divOk, CDivW] using c, q _ _ Gv.int⟩
    · cases e
  · split at e
    · rename_i c
      cases e; cases h1.int; cases h2.int
      exact op_mod pins sh σ H _ _ v u Q I rx ry ⟨_, _, rfl, rfl, c, q _ _ Gv.int⟩
    · cases e
  · split at e
    · rename_i c
      cases e; cases h1.int; cases h2.int
      exact op_shr pins sh σ H _ _ v u Q I rx ry ⟨_, _, rfl, rfl, c, q _ _ Gv.int⟩
    · cases e
  · split at e
    · rename_i c
      cases e; cases h1.int; cases h2.int
      exact op_pow pins sh σ H _ _ v u Q I rx ry ⟨_, _, rfl, rfl, ⟨c.1, by omega, c.2.2⟩, q _ _ Gv.int⟩
    · cases e
  · split at e
    · rename_i c
      cases e; cases h1.str; cases h2.str
      exact op_add_str pins sh σ H _ _ v u Q I rx ry ⟨_, _, rfl, rfl, c, q _ _ Gv.str⟩
    · cases e
  · split at e
    · rename_i c
      cases e
      obtain ⟨a, vs, ea, ra, qa⟩ := tup_rel h1 rfl
      obtain ⟨b, ws, eb, rb, qb⟩ := tup_rel h2 rfl
      subst ea; subst eb
      refine op_catA pins sh σ H _ _ v u Q I rx ry ⟨a, b, vs, ws, rfl, rfl, hK ▸ ra, hK ▸ rb, by rw [← qa.length, ← qb.length]; exact c, fun z => ?_, fun _ z => ?_, fun _ _ p hp => ?_⟩
      · have ez := qa.length
        rw [z] at ez
        have : _ = [] := List.length_eq_zero_iff.mp ez
        subst this
        exact q _ _ (Gv.old h2 (by simp))
      · have ez := qb.length
        rw [z] at ez
        have : _ = [] := List.length_eq_zero_iff.mp ez
        subst this
        rw [List.append_nil] at q
        exact q _ _ (Gv.old h1 (by simp))
      · exact q _ _ (Gv.tup hp (qa.append qb))
    · cases e
  · split at e
    · rename_i c
      cases e
      obtain ⟨a, vs, ea, ra, qa⟩ := tup_rel h1 rfl
      cases h2.int
      subst ea
      obtain ⟨c1, c2, c3, c4⟩ := c
      refine op_repT pins sh σ H _ _ v u Q I rx ry ⟨a, _, vs, rfl, rfl, hK ▸ ra, fun z => ?_, c2, c3, by rw [← qa.length]; exact c4, fun p hp => q _ _ (Gv.tup hp (qa.rep _))⟩
      have ez := qa.length
      rw [z] at ez
      exact c1 (List.length_eq_zero_iff.mp ez)
    · cases e
  · split at e
    · rename_i y1 y2 e1 e2
      split at e
      · rename_i c
        cases e
        obtain ⟨a, vs, ea, ra, qa⟩ := listOf_rel sr h1 e1
        obtain ⟨b, ws, eb, rb, qb⟩ := listOf_rel sr h2 e2
        subst ea; subst eb
        exact op_catL pins sh σ H _ _ v u Q I rx ry ⟨a, b, vs, ws, rfl, rfl, ra, rb, by rw [← qa.length, ← qb.length]; exact c, fun p hp => q _ _ (Gv.lst hp (qa.append qb))⟩
      · cases e
    · cases e
  · split at e
    · rename_i y1 e1
      split at e
      · rename_i c
        cases e
        obtain ⟨a, vs, ea, ra, qa⟩ := listOf_rel sr h1 e1
        cases h2.int
        subst ea
        simp only [repOk, Bool.and_eq_true, decide_eq_true_eq] at c
        refine op_repL pins sh σ H _ _ v u Q I rx ry ⟨a, _, vs, rfl, rfl, ra, by omega, by omega, ?_, fun p hp => q _ _ (Gv.lst hp (qa.rep _))⟩
        rw [← qa.length]
        refine Nat.le_trans (Nat.mul_le_mul c.2 (show _ ≤ 1000 from ?_)) (by decide)
        omega
      · cases e
    · cases e
  · cases e
theorem un_negD {g : Gn} {hot : Option HotI} : UnR X (unaryOp .USub) (fun a H Q => ∃ m x s d1 d, SRel g m x H s ∧ DX g hot m x H d1 a ∧ negD d1 = some d ∧ ∀ v H', Gv g hot m x H d v H' → Q v H') := by
  intro pins sh σ H x v Q I rx h
  obtain ⟨m, xx, s, d1, d, sr, h1, e, q⟩ := h
  unfold negD at e
  split at e
  · cases e; cases h1.int
    exact un_neg pins sh σ H _ v Q I rx ⟨_, rfl, q _ _ Gv.int⟩
  · cases e
end
end Pi

set_option maxRecDepth 100000
/-! Pi, part G: comparisons, subscripts, slices, built-ins on values. -/
namespace Pi
open PySem PySem.Spec PyProof.Rows L2

mutual
theorem pl_plain : ∀ d : D, d.pl = true → d.pd.plain = true
  | .non, _ | .bl _, _ | .int _, _ | .str _, _ => rfl
  | .tup ds, h | .lst ds, h => by
    simp only [D.pd, PyData.plain]
    exact plAll_plain ds (by simpa [D.pl] using h)
  | .ref _, h | .fn _, h | .ty _, h | .exn, h | .scr _, h => by simp [D.pl] at h
theorem plAll_plain : ∀ ds : List D, plAll ds = true → PyData.plainAll (pdAll ds) = true
  | [], _ => rfl
  | d :: r, h => by
    simp only [plAll, Bool.and_eq_true] at h
    simp only [pdAll, PyData.plainAll, pl_plain d h.1, plAll_plain r h.2, Bool.and_self]
end
theorem pl_ne {d : D} (h : d.pl = true) : d ≠ .exn := fun e => by rw [e] at h; cases h

section
variable {X : L2.Cx} {g : Gn} {m x : List Addr} {H : Hp} {pins : List (Addr × PySem.Obj)} {σ : L2.St} {sh : Shared}
mutual
theorem reads_of (hK : X.K = g.K) (I : Inv X pins σ H sh) : ∀ (d : D) (v : V) (u : Value), d.pl = true → DRel g m x H d v → RelV v u → ∃ as, Reads sh.heap u d.pd as
  | .non, _, _, _, h, r => by cases (show _ = V.non from h); cases r; exact ⟨_, Reads.none⟩
  | .bl b, _, _, _, h, r => by cases (show _ = V.bl b from h); cases r; exact ⟨_, Reads.bool b⟩
  | .int i, _, _, _, h, r => by cases (show _ = V.int i from h); obtain ⟨t, rfl⟩ := r; exact ⟨_, Reads.int i t⟩
  | .str i, _, _, _, h, r => by cases (show _ = V.str i from h); obtain ⟨t, rfl⟩ := r; exact ⟨_, Reads.str i t⟩
  | .tup ds, _, _, hp, h, r => by
    obtain ⟨a, vs, rfl, q, hs⟩ := h
    cases r
    obtain ⟨its, rv, ⟨o, ho, hc, n, hd⟩, _⟩ := I.tuple (a := a) (xs := vs) (hK ▸ (q.elim (fun q => .inl q.1) .inr : SqT g.K H a vs))
    obtain ⟨as, hr⟩ := readsAll_of hK I ds vs its (by simpa [D.pl] using hp) hs rv
    exact ⟨_, Reads.tuple ho hc hd hr⟩
  | .lst ds, _, _, hp, h, r => by
    obtain ⟨a, vs, rfl, q, hs⟩ := h
    cases r
    obtain ⟨_, its, n, rv, _, e⟩ := rdl I q.1
    obtain ⟨as, hr⟩ := readsAll_of hK I ds vs its (by simpa [D.pl] using hp) hs rv
    exact ⟨_, Reads.list e rfl rfl hr⟩
  | .ref _, _, _, h, _, _ | .fn _, _, _, h, _, _ | .ty _, _, _, h, _, _ | .exn, _, _, h, _, _ | .scr _, _, _, h, _, _ => by simp [D.pl] at h
theorem readsAll_of (hK : X.K = g.K) (I : Inv X pins σ H sh) : ∀ (ds : List D) (vs : List V) (us : List Value), plAll ds = true → DRels g m x H ds vs → Vals vs us → ∃ as, ReadsAll sh.heap us (pdAll ds) as
  | [], _, _, _, h, r => by cases (show _ = [] from h); cases r; exact ⟨_, ReadsAll.nil⟩
  | d :: ds, _, _, hp, h, r => by
    obtain ⟨v, w, rfl, h1, h2⟩ := h
    simp only [plAll, Bool.and_eq_true] at hp
    cases r with
    | cons r1 r2 =>
      obtain ⟨as, q1⟩ := reads_of hK I d _ _ hp.1 h1 r1
      obtain ⟨bs, q2⟩ := readsAll_of hK I ds _ _ hp.2 h2 r2
      exact ⟨_, ReadsAll.cons q1 q2⟩
end
/-- through the store -/
theorem reads_view {hot : Option HotI} {s : Sto} (hK : X.K = g.K) (I : Inv X pins σ H sh) (sr : SRel g m x H s) {d : D} {v : V} {u : Value} (hp : (view s d).pl = true) (h : DX g hot m x H d v) (r : RelV v u) : ∃ as, Reads sh.heap u (view s d).pd as := by
  unfold view at hp ⊢
  split at hp
  · rename_i n
    split at hp
    · rename_i ds hs
      obtain ⟨a, hm, rfl⟩ := h.ne (by simp)
      obtain ⟨vs, q1, q2⟩ := sr.obj n _ a hs hm
      cases r
      obtain ⟨_, its, k, rv, _, e⟩ := rdl I (.inl q1)
      obtain ⟨as, hr⟩ := readsAll_of hK I ds vs its (by simpa [D.pl] using hp) q2 rv
      exact ⟨_, Reads.list e rfl rfl hr⟩
    · simp [D.pl] at hp
  · rename_i d' hn
    have : view s d = d := by
      unfold view
      split
      · exact absurd rfl (hn _)
      · rfl
    exact reads_of hK I d v u hp (h.ne (pl_ne hp)) r
end

section
variable {X : L2.Cx} {g : Gn} {hot : Option HotI}
theorem op_cmpD (hK : X.K = g.K) (hu : X.A.units + 64 < cLine) (op : CmpOp) : OpR X (compareOp op) (rPr g hot fun s a b => (cmpD op s a b).map .bl) := by
  intro pins sh σ H vx vy v u Q I rx ry h
  obtain ⟨m, xx, s, d1, d2, d, sr, h1, h2, e, q⟩ := h
  have eq : ∀ b, eqD s d1 d2 = some b → (∃ as, Reads sh.heap v (view s d1).pd as) ∧ (∃ bs, Reads sh.heap u (view s d2).pd bs) ∧ (view s d1).pd.plain = true ∧ (view s d2).pd.plain = true ∧ (view s d1).pd.depth ≤ eqRoom ∧ b = PyData.eqv (view s d1).pd (view s d2).pd := by
    intro b e
    unfold eqD at e
    split at e
    · rename_i c
      simp only [Bool.and_eq_true, decide_eq_true_eq] at c
      cases e
      exact ⟨reads_view hK I sr c.1.1 h1 rx, reads_view hK I sr c.1.2 h2 ry, pl_plain _ c.1.1, pl_plain _ c.1.2, c.2, rfl⟩
    · cases e
  have isin : ∀ b, inD s d1 d2 = some b → wpAny (model X.prog X.w) X.A (compareOp .In v u) (EP X pins σ fun w H' => w = .bl b ∧ H' = H) X.xe sh ∧ wpAny (model X.prog X.w) X.A (compareOp .NotIn v u) (EP X pins σ fun w H' => w = .bl (!b) ∧ H' = H) X.xe sh := by
    intro b e
    unfold inD at e
    split at e
    · cases e; cases h1.str; cases h2.str
      exact ⟨op_in_str pins sh σ H _ _ v u _ I rx ry ⟨_, _, rfl, rfl, rfl, rfl⟩, L2.op_notin_str pins sh σ H _ _ v u _ I rx ry ⟨_, _, rfl, rfl, rfl, rfl⟩⟩
    · split at e
      · rename_i ds hs
        split at e
        · rename_i c
          simp only [Bool.and_eq_true, decide_eq_true_eq] at c
          cases e
          obtain ⟨as, ra⟩ := reads_of hK I d1 _ _ c.1.1 (h1.ne (pl_ne c.1.1)) rx
          obtain ⟨a, vs, rfl, hq, hd⟩ := seqOf_rel sr h2 hs
          cases ry
          have pl := plAll_plain ds c.1.2
          have pn := pl_plain d1 c.1.1
          have room : X.A.units + 1 + min (PyData.depthAll (pdAll ds)) d1.pd.depth < cLine := by
            have := Nat.min_le_right (PyData.depthAll (pdAll ds)) d1.pd.depth
            have c2 := c.2
            unfold eqRoom at c2
            omega
          have any : (pdAll ds).any (fun y => PyData.eqv y d1.pd) = ds.any (fun d => PyData.eqv d.pd d1.pd) := by
            clear hd hs pl room c
            induction ds with
            | nil => rfl
            | cons d r ih => simp only [pdAll, List.any_cons, ih]
          rcases hq with hq | hq
          · obtain ⟨its, rv, ⟨o, n, ho, hc, hdc, hdd⟩, _⟩ := I.list (X := X) (hK ▸ hq)
            obtain ⟨bs, rb⟩ := readsAll_of hK I ds vs its c.1.2 hd rv
            have RL : Reads sh.heap (.ref a) (.list (pdAll ds)) (a :: bs) := Reads.list ho hc hdd rb
            exact ⟨SeqAt.in_list_data RL ra pl pn room (by rw [any]; exact ⟨.bl _, H, I, rfl, rfl, rfl⟩), SeqAt.notIn_list_data RL ra pl pn room (by rw [any]; exact ⟨.bl _, H, I, rfl, rfl, rfl⟩)⟩
          · obtain ⟨its, rv, ⟨o, ho, hc, n, hdd⟩, _⟩ := I.tuple (X := X) (hK ▸ hq)
            obtain ⟨bs, rb⟩ := readsAll_of hK I ds vs its c.1.2 hd rv
            have RL : Reads sh.heap (.ref a) (.tuple (pdAll ds)) bs := Reads.tuple ho hc hdd rb
            exact ⟨SeqAt.in_tuple_data RL ra pl pn room (by rw [any]; exact ⟨.bl _, H, I, rfl, rfl, rfl⟩), SeqAt.notIn_tuple_data RL ra pl pn room (by rw [any]; exact ⟨.bl _, H, I, rfl, rfl, rfl⟩)⟩
        · cases e
      · cases e
  have isis : ∀ b, isD d1 d2 = some b → wpAny (model X.prog X.w) X.A (compareOp .Is v u) (EP X pins σ fun w H' => w = .bl b ∧ H' = H) X.xe sh ∧ wpAny (model X.prog X.w) X.A (compareOp .IsNot v u) (EP X pins σ fun w H' => w = .bl (!b) ∧ H' = H) X.xe sh := by
    intro b e
    unfold isD at e
    split at e
    · cases h2.non
      split at e
      · cases e; cases h1.non
        exact ⟨op_isN pins sh σ H _ _ v u _ I rx ry ⟨rfl, by simp⟩, op_notN pins sh σ H _ _ v u _ I rx ry ⟨rfl, by simp⟩⟩
      · cases e
      · rename_i hn hx
        cases e
        have nn : vx ≠ .non := by
          intro z
          subst z
          have h := h1.ne hx
          revert h
          cases d1 with
          | non => exact fun _ => hn rfl
          | tup _ => rintro ⟨_, _, z, _⟩; cases z
          | lst _ => rintro ⟨_, _, z, _⟩; cases z
          | ref _ => rintro ⟨_, _, z⟩; cases z
          | scr _ => rintro ⟨_, z, _⟩; cases z
          | fn _ => rintro ⟨_, _, z⟩; cases z
          | exn => exact fun h => h
          | _ => intro z; cases (show V.non = _ from z)
        exact ⟨op_isN pins sh σ H _ _ v u _ I rx ry ⟨rfl, by simp [nn]⟩, op_notN pins sh σ H _ _ v u _ I rx ry ⟨rfl, by simp [nn]⟩⟩
    · split at e
      · cases e; cases h1.bl; cases h2.bl
        exact ⟨op_isBl pins sh σ H _ _ v u _ I rx ry ⟨_, _, rfl, rfl, by rw [Bool.beq_eq_decide_eq], rfl⟩, op_notBl pins sh σ H _ _ v u _ I rx ry ⟨_, _, rfl, rfl, by rw [Bool.beq_eq_decide_eq], rfl⟩⟩
      · cases e
    · cases e
  have fin : ∀ {b : Bool} {op : CmpOp}, wpAny (model X.prog X.w) X.A (compareOp op v u) (EP X pins σ fun w H' => w = .bl b ∧ H' = H) X.xe sh → Q (.bl b) H → wpAny (model X.prog X.w) X.A (compareOp op v u) (EP X pins σ Q) X.xe sh := fun w q =>
    wpAny_mono w (fun _ _ ⟨v', H', I', r', e1, e2⟩ => by subst e1 e2; exact ⟨_, _, I', r', q⟩) fun _ _ z => z
  obtain ⟨b, e', rfl⟩ := Option.map_eq_some_iff.mp (show (cmpD op s d1 d2).map D.bl = some d from e)
  replace e : cmpD op s d1 d2 = some b := e'
  have q := q _ _ Gv.bl
  unfold cmpD at e
  split at e
  · cases e; cases h1.int; cases h2.int
    exact op_lt pins sh σ H _ _ v u Q I rx ry ⟨_, _, rfl, rfl, q⟩
  · cases e; cases h1.int; cases h2.int
    exact op_le pins sh σ H _ _ v u Q I rx ry ⟨_, _, rfl, rfl, q⟩
  · cases e; cases h1.int; cases h2.int
    exact op_gt pins sh σ H _ _ v u Q I rx ry ⟨_, _, rfl, rfl, q⟩
  · cases e; cases h1.int; cases h2.int
    exact op_ge pins sh σ H _ _ v u Q I rx ry ⟨_, _, rfl, rfl, q⟩
  · cases e; cases h1.str; cases h2.str
    exact op_le_str pins sh σ H _ _ v u Q I rx ry ⟨_, _, rfl, rfl, q⟩
  · obtain ⟨⟨as, r1⟩, ⟨bs, r2⟩, p1, p2, c, rfl⟩ := eq _ e
    unfold eqRoom at c
    have := Nat.min_le_left (view s d1).pd.depth (view s d2).pd.depth
    exact SeqAt.eq_plain r1 r2 p1 p2 (by omega) ⟨.bl _, H, I, rfl, q⟩
  · obtain ⟨b', e2, rfl⟩ := Option.map_eq_some_iff.mp e
    obtain ⟨⟨as, r1⟩, ⟨bs, r2⟩, p1, p2, c, rfl⟩ := eq _ e2
    unfold eqRoom at c
    have := Nat.min_le_left (view s d1).pd.depth (view s d2).pd.depth
    exact SeqAt.ne_plain r1 r2 p1 p2 (by omega) ⟨.bl _, H, I, rfl, q⟩
  · exact fin (isin _ e).1 q
  · obtain ⟨b', e2, rfl⟩ := Option.map_eq_some_iff.mp e
    exact fin (isin _ e2).2 q
  · exact fin (isis _ e).1 q
  · obtain ⟨b', e2, rfl⟩ := Option.map_eq_some_iff.mp e
    exact fin (isis _ e2).2 q
  · cases e
end
end Pi

set_option maxRecDepth 100000
/-! Pi, part H: subscripts, slices, built-ins, methods on values. -/
namespace Pi
open PySem PySem.Spec PyProof.Rows L2

section
variable {g : Gn} {hot : Option HotI} {m m' x : List Addr} {H H' : Hp} {s : Sto}
theorem DXs.length : ∀ {ds : List D} {vs : List V}, DXs g hot m x H ds vs → ds.length = vs.length
  | [], _, h => by rw [show _ = [] from h]; rfl
  | d :: ds, _, h => by
    obtain ⟨v, r, rfl, _, h2⟩ := h
    simp [DXs.length h2]
theorem DXs.one {d : D} {vs : List V} (h : DXs g hot m x H [d] vs) : ∃ v, vs = [v] ∧ DX g hot m x H d v := by
  obtain ⟨v, r, rfl, h1, h2⟩ := h
  rw [show r = [] from h2]
  exact ⟨v, rfl, h1⟩
theorem DXs.calm (h : ∀ {ds : List D} {vs : List V}, DXs g hot m x H ds vs → (hot = none ∨ ds.all (fun d => decide (d ≠ .exn)) = true) → DRels g m x H ds vs) : True := trivial
theorem DXs.rels : ∀ {ds : List D} {vs : List V}, DXs g hot m x H ds vs → (hot = none ∨ ds.all (fun d => decide (d ≠ .exn)) = true) → DRels g m x H ds vs
  | [], _, h, _ => h
  | d :: ds, _, h, c => by
    obtain ⟨v, r, rfl, h1, h2⟩ := h
    refine ⟨v, r, rfl, ?_, DXs.rels h2 (c.imp id fun c => ?_)⟩
    · rcases h1 with ⟨rfl, a, e, _⟩ | h1
      · rcases c with c | c
        · rw [c] at e; cases e
        · simp at c
      · exact h1
    · simp only [List.all_cons, Bool.and_eq_true] at c
      exact c.2
theorem DX.rel (h0 : hot = none) {d : D} {v : V} (h : DX g hot m x H d v) : DRel g m x H d v := by
  rcases h with ⟨_, a, e, _⟩ | h
  · rw [h0] at e; cases e
  · exact h
theorem cut_rel {ds : List D} {vs : List V} (h : DRels g m x H ds vs) (lo hi : Option Int) : DRels g m x H (cutD ds lo hi) (cutV vs lo hi) := by
  unfold cutD cutV
  rw [h.length]
  exact (h.drop _).take _
theorem mapM_some {α β : Type} {f : α → Option β} : ∀ {l : List α} {r : List β}, l.mapM f = some r → ∀ (g : β → α), (∀ a b, f a = some b → a = g b) → l = r.map g
  | [], r, h, g, hg => by
    simp at h; subst h; rfl
  | a :: l, r, h, g, hg => by
    rw [List.mapM_cons] at h
    cases e : f a with
    | none => rw [e] at h; simp at h
    | some b =>
      rw [e] at h
      cases e2 : l.mapM f with
      | none => rw [e2] at h; simp at h
      | some q =>
        rw [e2] at h
        simp at h
        subst h
        rw [List.map_cons, ← mapM_some e2 g hg, hg a b e]
theorem ints_rel (sr : SRel g m x H s) {d : D} {v : V} {is : List Int} (h : DX g hot m x H d v) (e : intsD s d = some is) : ∃ a, v = .ref a ∧ Rd H a (.lst (is.map V.int)) := by
  unfold intsD at e
  split at e
  · rename_i ds hs
    obtain ⟨a, vs, rfl, hr, hd⟩ := listOf_rel sr h hs
    have q := mapM_some e D.int (fun a b h => by cases a <;> simp_all)
    subst q
    rw [DRels.ints hd] at hr
    exact ⟨a, rfl, hr⟩
  · cases e
theorem DRels.bools : ∀ {is : List Bool} {vs : List V}, DRels g m x H (is.map .bl) vs → vs = is.map .bl
  | [], _, h => h
  | i :: is, _, h => by
    obtain ⟨v, r, rfl, h1, h2⟩ := h
    rw [List.map_cons, DRels.bools h2, show v = .bl i from h1]
theorem bools_rel (sr : SRel g m x H s) {d : D} {v : V} {is : List Bool} (h : DX g hot m x H d v) (e : boolsD s d = some is) : ∃ a, v = .ref a ∧ Rd H a (.lst (is.map V.bl)) := by
  unfold boolsD at e
  split at e
  · rename_i ds hs
    obtain ⟨a, vs, rfl, hr, hd⟩ := listOf_rel sr h hs
    have q := mapM_some e D.bl (fun a b h => by cases a <;> simp_all)
    subst q
    rw [DRels.bools hd] at hr
    exact ⟨a, rfl, hr⟩
  · cases e
theorem DRels.atI {ds : List D} {vs : List V} {i : Int} {d : D} (h : DRels g m x H ds vs) (e : atI ds i = some d) : ∃ v, L2.atI vs i = some v ∧ DRel g m x H d v := by
  unfold L2.atI at *
  rw [← h.length]
  obtain ⟨j, h1, h2⟩ := Option.bind_eq_some_iff.mp e
  obtain ⟨v, q1, q2⟩ := h.get h2
  exact ⟨v, by rw [h1]; exact q1, q2⟩
end

section
variable {X : L2.Cx} {g : Gn} {hot : Option HotI}
/-- a[b]: an old item -/
def rIdx (g : Gn) (hot : Option HotI) : R2 := fun a b H Q => ∃ m x s d1 d2 d, SRel g m x H s ∧ DX g hot m x H d1 a ∧ DX g hot m x H d2 b ∧ idxD s d1 d2 = some d ∧ ∀ v, DX g hot m x H d v → Q v H
theorem ix_any (hK : X.K = g.K) : IxR X (rIdx g hot) := by
  intro value slice pins sh σ H vx vy v u Q I rx ry h hs
  obtain ⟨m, x, s, d1, d2, d, sr, h1, h2, e, q⟩ := h
  refine ix_seq value slice pins sh σ H vx vy v u Q I rx ry ?_ hs
  unfold idxD at e
  split at e
  · split at e
    · rename_i c
      obtain ⟨k, e1, rfl⟩ := Option.map_eq_some_iff.mp e
      cases h1.str; cases h2.int
      exact .inr (.inr ⟨_, _, k, rfl, rfl, c, e1, q _ (.inr rfl)⟩)
    · cases e
  · split at e
    · rename_i ds hs'
      cases h2.int
      obtain ⟨a, vs, rfl, hq, hd⟩ := seqOf_rel sr h1 hs'
      obtain ⟨w, q1, q2⟩ := hd.atI e
      rcases hq with hq | hq
      · exact .inl ⟨a, vs, _, w, rfl, rfl, hK ▸ hq, q1, q _ (.inr q2)⟩
      · exact .inr (.inl ⟨a, vs, _, w, rfl, rfl, hK ▸ hq, q1, q _ (.inr q2)⟩)
    · cases e
  · cases e
/-- a[lo:hi] -/
def rCut (g : Gn) (hot : Option HotI) : V → Option Int → Option Int → Hp → VK → Prop := fun a lo hi H Q => ∃ m x s d1 d, SRel g m x H s ∧ DX g hot m x H d1 a ∧ cutAt s d1 lo hi = some d ∧ ∀ v H', Gv g hot m x H d v H' → Q v H'
theorem sl_any (hK : X.K = g.K) : SlR X (rCut g hot) := by
  intro pins sh σ H vx v vl vu lo hi sl Q I rx hs pl pu h
  obtain ⟨m, x, s, d1, d, sr, h1, e, q⟩ := h
  unfold cutAt at e
  split at e
  · split at e
    · rename_i c
      cases e
      cases h1.str
      exact sl_str pins sh σ H _ v vl vu lo hi sl Q I rx hs pl pu ⟨_, rfl, c, q _ _ Gv.str⟩
    · cases e
  · rename_i ds
    cases e
    obtain ⟨a, vs, rfl, hq, hd⟩ := tup_rel h1 rfl
    refine sl_tupA pins sh σ H _ v vl vu lo hi sl Q I rx hs pl pu ⟨a, vs, rfl, hK ▸ hq, fun w => ?_, fun _ p hp => q _ _ (Gv.tup hp (cut_rel hd lo hi))⟩
    have : cutD ds lo hi = ds := by
      unfold cutD
      rw [hd.length, w.1, w.2, List.drop_zero, Nat.sub_zero, ← hd.length, List.take_length]
    rw [this] at q
    exact q _ _ (Gv.old h1 (by simp))
  · obtain ⟨ds, e1, rfl⟩ := Option.map_eq_some_iff.mp e
    obtain ⟨a, vs, rfl, hq, hd⟩ := listOf_rel sr h1 e1
    exact sl_list pins sh σ H _ v vl vu lo hi sl Q I rx hs pl pu ⟨a, vs, rfl, .inl hq, fun p hp => q _ _ (Gv.lst hp (cut_rel hd lo hi))⟩

/-- a built-in that changes nothing -/
def rBi (g : Gn) (hot : Option HotI) (b : Bi) : List V → Hp → VK → Prop := fun vs H Q => ∃ m x s ds d, SRel g m x H s ∧ DXs g hot m x H ds vs ∧ biD b s ds = some d ∧ ∀ v H', Gv g hot m x H d v H' → Q v H'
def Bi.val : Bi → Value
  | .len => .builtin "len" | .abs => .builtin "abs" | .all => .builtin "all" | .any => .builtin "any" | .sum => .builtin "sum" | .repr => .builtin "repr"
  | .int => .type "int" | .tuple => .type "tuple" | .list => .type "list" | .str => .type "str" | .bool => .type "bool"
mutual
theorem pl_noDict : ∀ d : D, d.pd.hasDict = false
  | .non | .bl _ | .int _ | .str _ | .ref _ | .fn _ | .ty _ | .exn | .scr _ => by simp only [D.pd, PyData.hasDict]
  | .tup ds | .lst ds => by simp only [D.pd, PyData.hasDict, plAll_noDict ds]
theorem plAll_noDict : ∀ ds : List D, PyData.hasDictAll (pdAll ds) = false
  | [] => by simp only [pdAll, PyData.hasDictAll]
  | d :: r => by simp only [pdAll, PyData.hasDictAll, pl_noDict d, plAll_noDict r, Bool.or_self]
end
theorem cr_repr (hK : X.K = g.K) (hu : X.A.units + 64 < cLine) (hg : X.A.guards = some []) : CallR X (.builtin "repr") (rBi g hot .repr) := by
  intro pins sh σ H vs us Q I r h
  obtain ⟨m, x, s, ds, d, sr, hd, e, q⟩ := h
  obtain ⟨d1, rfl, e2⟩ : ∃ d1, ds = [d1] ∧ showD s d1 = some d := by
    cases ds with
    | nil => exact nomatch e
    | cons d1 r => cases r with
      | nil => exact ⟨d1, rfl, e⟩
      | cons _ _ => exact nomatch e
  · obtain ⟨v, rfl, h1⟩ := hd.one
    obtain ⟨u, rfl, ru⟩ := Vals.one r
    unfold showD at e2
    split at e2
    · rename_i c
      simp only [Bool.and_eq_true, decide_eq_true_eq] at c
      obtain ⟨⟨⟨c1, c2⟩, c3⟩, c4⟩ := c
      cases e2
      obtain ⟨as, ra⟩ := reads_view hK I sr c1 h1 ru
      have q := q _ _ (Gv.str (g := g) (hot := hot) (m := m) (x := x) (H := H))
      unfold eqRoom at c3
      have fin : ∀ a, u = .ref a → wpAny (model X.prog X.w) X.A (call (.builtin "repr") [u]) (EP X pins σ Q) X.xe sh := fun a eu => by
        subst eu
        exact repr_of_reads' ra c2 (fun z => by rw [pl_noDict] at z; cases z) hg (by omega) (fun _ _ e => e) (fun h' u tk hk => ⟨.str _, H, I.kept hk, ⟨_, rfl⟩, q⟩) c4
      cases d1 with
      | int i =>
        cases h1.int
        obtain ⟨t, rfl⟩ := ru
        exact PySem.P.repr_of_int (by simpa [view, D.pd, PyData.showable] using c2) ⟨.str _, H, I.tok _, ⟨_, rfl⟩, q⟩
      | str i =>
        cases h1.str
        obtain ⟨t, rfl⟩ := ru
        exact PySem.P.repr_of_str ⟨.str _, H, I.tok _, ⟨_, rfl⟩, q⟩ c4
      | bl b =>
        cases h1.bl
        cases ru
        exact PySem.P.repr_of_bool ⟨.str _, H, I.tok _, ⟨_, rfl⟩, q⟩
      | tup ds =>
        obtain ⟨a, vs, rfl, _⟩ := h1.ne (by simp)
        exact fin a ru
      | lst ds =>
        obtain ⟨a, vs, rfl, _⟩ := h1.ne (by simp)
        exact fin a ru
      | ref n =>
        obtain ⟨a, _, rfl⟩ := h1.ne (by simp)
        exact fin a ru
      | non =>
        cases h1.non
        cases ru
        exact PySem.P.repr_of_none ⟨.str _, H, I.tok _, ⟨_, rfl⟩, q⟩
      | fn _ => simp [view, D.pl] at c1
      | ty _ => simp [view, D.pl] at c1
      | exn => simp [view, D.pl] at c1
      | scr _ => simp [view, D.pl] at c1
    · cases e2
theorem cr_bi (hK : X.K = g.K) (hc : X.calm = true ∨ True) (hu : X.A.units + 64 < cLine) (hg : X.A.guards = some []) (hcalm : X.calm = true) (b : Bi) : CallR X b.val (rBi g hot b) := by
  intro pins sh σ H vs us Q I r h
  have h0 := h
  obtain ⟨m, x, s, ds, d, sr, hd, e, q⟩ := h
  unfold biD at e
  split at e
  · obtain ⟨v, rfl, h1⟩ := hd.one
    unfold lenD at e
    split at e
    · split at e
      · rename_i c
        cases e; cases h1.str
        exact call_len_str pins sh σ H _ us Q I r ⟨_, rfl, c, q _ _ Gv.int⟩
      · cases e
    · obtain ⟨es, e1, rfl⟩ := Option.map_eq_some_iff.mp e
      obtain ⟨a, ws, rfl, hq, hw⟩ := seqOf_rel sr h1 e1
      refine call_len_seq pins sh σ H _ us Q I r ⟨a, ws, rfl, hK ▸ hq, ?_⟩
      rw [← hw.length]
      exact q _ _ Gv.int
  · cases e
    obtain ⟨v, rfl, h1⟩ := hd.one
    cases h1.int
    exact call_abs pins sh σ H _ us Q I r ⟨_, rfl, q _ _ Gv.int⟩
  · cases e
    obtain ⟨v, rfl, h1⟩ := hd.one
    cases h1.int
    exact call_int1 pins sh σ H _ us Q I r (.inl ⟨_, rfl, q _ _ Gv.int⟩)
  · cases e
    obtain ⟨v, rfl, h1⟩ := hd.one
    cases h1.bl
    exact call_int1 pins sh σ H _ us Q I r (.inr ⟨_, rfl, q _ _ Gv.int⟩)
  · obtain ⟨bs, e1, rfl⟩ := Option.map_eq_some_iff.mp e
    obtain ⟨v, rfl, h1⟩ := hd.one
    obtain ⟨a, rfl, hr⟩ := bools_rel sr h1 e1
    exact cr_all hcalm pins sh σ H _ us Q I r ⟨a, bs, rfl, .inl hr, q _ _ Gv.bl⟩
  · obtain ⟨bs, e1, rfl⟩ := Option.map_eq_some_iff.mp e
    obtain ⟨v, rfl, h1⟩ := hd.one
    obtain ⟨a, rfl, hr⟩ := bools_rel sr h1 e1
    exact cr_any hcalm pins sh σ H _ us Q I r ⟨a, bs, rfl, .inl hr, q _ _ Gv.bl⟩
  · obtain ⟨bs, e1, rfl⟩ := Option.map_eq_some_iff.mp e
    obtain ⟨v, rfl, h1⟩ := hd.one
    obtain ⟨a, rfl, hr⟩ := ints_rel sr h1 e1
    exact cr_sum hcalm pins sh σ H _ us Q I r ⟨a, bs, rfl, .inl hr, q _ _ Gv.int⟩
  · obtain ⟨es, e1, rfl⟩ := Option.map_eq_some_iff.mp e
    obtain ⟨v, rfl, h1⟩ := hd.one
    unfold seqOf at e1
    split at e1
    · cases e1
      obtain ⟨a, ws, rfl, hq, hw⟩ := tup_rel h1 rfl
      exact call_tuple_of pins sh σ H _ us Q I r ⟨a, ws, rfl, .inr ⟨hK ▸ hq, q _ _ (Gv.old h1 (by simp))⟩⟩
    · obtain ⟨a, ws, rfl, hq, hw⟩ := listOf_rel sr h1 e1
      exact call_tuple_of pins sh σ H _ us Q I r ⟨a, ws, rfl, .inl ⟨.inl hq, fun p hp => q _ _ (Gv.tup hp hw)⟩⟩
  · obtain ⟨es, e1, rfl⟩ := Option.map_eq_some_iff.mp e
    obtain ⟨v, rfl, h1⟩ := hd.one
    obtain ⟨a, ws, rfl, hq, hw⟩ := seqOf_rel sr h1 e1
    exact call_list_of pins sh σ H _ us Q I r ⟨a, ws, rfl, hK ▸ hq, fun p hp => q _ _ (Gv.lst hp hw)⟩
  · exact cr_repr hK hu hg pins sh σ H _ us Q I r h0
  · split at e
    · rename_i c
      cases e
      obtain ⟨v, rfl, h1⟩ := hd.one
      cases h1.int
      exact call_str_int pins sh σ H _ us Q I r ⟨_, rfl, by simpa [intOk] using c, q _ _ Gv.str⟩
    · cases e
  · cases e
    obtain ⟨v, rfl, h1⟩ := hd.one
    cases h1.bl
    exact call_bool1 pins sh σ H _ us Q I r (.inr ⟨_, rfl, q _ _ Gv.bl⟩)
  · cases e
    obtain ⟨v, rfl, h1⟩ := hd.one
    cases h1.int
    exact call_bool1 pins sh σ H _ us Q I r (.inl ⟨_, rfl, q _ _ Gv.bl⟩)
  · cases e
end
end Pi

set_option maxRecDepth 100000
/-! Pi, part J: from the machine's syntax to the AST. -/
namespace Pi
open PySem PySem.Spec PyProof.Rows L2

/-- what a global name is: a constant, a def, a class of exceptions, nothing of the module's -/
inductive GlK where
  | val (d : D)
  | fn
  | exc
  | free
structure CC where
  sc : Scope
  N : List Str
  calm : Bool
  blk : Option Scope
  gl : Str → Option GlK
  muts : List Str
  ret : Bool

def CC.slot (cc : CC) (x : Str) : Option Nat := match cc.sc.names.lookup x with
  | some .local | some .cell | some .free => cc.N.findIdx? (fun y => decide (y = x))
  | _ => none
/-- a name that may be stored -/
def CC.store (cc : CC) (x : Str) : Option Nat := match cc.sc.names.lookup x with
  | some .local => cc.N.findIdx? (fun y => decide (y = x))
  | some .cell => match cc.blk with
    | none => cc.N.findIdx? (fun y => decide (y = x))
    | some b => if b.names.lookup x = some .cell then cc.N.findIdx? (fun y => decide (y = x)) else none
  | _ => none
def plainName (x : Str) : Bool := !(x == ("__debug__" : Str)) && !(x == ("__classdict__" : Str)) && decide (x ≠ "__name__")
def CC.glob (cc : CC) (x : Str) : Option GlK := if cc.sc.names.lookup x = some .globalImplicit && plainName x then cc.gl x else none
def biOf (x : Str) : Option Bi := [Bi.len, .abs, .int, .all, .any, .sum, .tuple, .list, .repr, .str, .bool].find? fun b => decide (b.name = x)
def meOf (x : Str) : Option Me := [Me.append, .extend, .pop, .reverse].find? fun b => decide (b.name = x)
def noStar : Expr → Bool
  | .Starred .. => false
  | _ => true
def plainO : Expr → Bool
  | .Call (.Name _ _) [] [] _ => false
  | _ => true
def compName (cc : CC) (x : Str) : Option E := if plainName x then match cc.slot x with
    | some i => some (.v i)
    | none => match cc.glob x with
      | some (.val d) => some (.g x d)
      | some .fn => some (.g x (.fn x))
      | _ => none
  else none
def compL (f : Expr → Option E) : List Expr → Option EL
  | [] => some .nil
  | e :: r => match f e, compL f r with
    | some a, some q => some (.cons a q)
    | _, _ => none
def tyOk (x : Str) : Option String := if x = "int" then some "int" else if x = "str" then some "str" else if x = "tuple" then some "tuple" else if x = "list" then some "list" else if x = "bool" then some "bool" else none
def compTy (cc : CC) : Expr → Option D
  | .Name x _ => match cc.glob x with
    | some .free => (tyOk x).map .ty
    | some .exc => some (.fn x)
    | _ => none
  | _ => none
def compTys (cc : CC) : List Expr → Option (List D)
  | [] => some []
  | e :: r => match compTy cc e, compTys cc r with
    | some a, some q => some (a :: q)
    | _, _ => none
def notSlice : Expr → Bool
  | .Slice .. => false
  | _ => true
def notSet : Expr → Bool
  | .Set .. => false
  | _ => true
mutual
def compG (f : Expr → Option E) (cc : CC) (vs : List Nat) : Nat → Expr → Option TG
  | 0, _ => none
  | n + 1, e => match e with
    | .Name x _ => if plainName x then match cc.store x with
      | some i => if i ∈ vs then some (.v i) else none
      | none => none
      else none
    | .Tuple es _ _ => if cc.calm then match compGs f cc vs n es with
      | some ts => some (.tup ts)
      | none => none
      else none
    | .Subscript o i _ => if notSlice i && cc.calm then match f o, f i with
      | some a, some b => some (.sub a b)
      | _, _ => none
      else none
    | _ => none
def compGs (f : Expr → Option E) (cc : CC) (vs : List Nat) : Nat → List Expr → Option TGL
  | 0, _ => none
  | n + 1, es => match es with
    | [] => some .nil
    | e :: r => match compG f cc vs n e, compGs f cc vs n r with
      | some a, some q => some (.cons a q)
      | _, _ => none
end
def isTuple : Expr → Bool
  | .Tuple .. => true
  | _ => false
/-- what is walked, by a target -/
def compI (f : Expr → Option E) (cc : CC) (tg : Expr) (it : Expr) : Option IT :=
  match it with
  | .Call (.Name x _) es [] _ =>
    if x = "range" then match cc.glob x, es with
      | some .free, [a] => match f a with
        | some y => some (.range (.cons y .nil))
        | none => none
      | some .free, [a, b] => match f a, f b with
        | some y, some z => some (.range (.cons y (.cons z .nil)))
        | _, _ => none
      | _, _ => none
    else match f it with
      | some y => some (.ex y)
      | none => none
  | it => if notSet it then match f it with
      | some y => some (.ex y)
      | none => none
    else none
def compO (f : Expr → Option E) : Option Expr → Option EO
  | none => some .none
  | some e => match f e with
    | some y => some (.some y)
    | none => none
def compIf (f : Expr → Option E) : List Expr → Option EO
  | [] => some .none
  | [c] => match f c with
    | some y => some (.some y)
    | none => none
  | _ => none
/-- a block's own names with their places -/
def ownOf (N : List Str) (sc : Scope) : List (Str × Nat) := sc.names.filterMap fun p => if p.2 = .local ∨ p.2 = .cell then (N.findIdx? fun y => decide (y = p.1)).map fun i => (p.1, i) else none
def CC.inner (cc : CC) (scope : Scope) : CC := { cc with sc := relS scope cc.sc, blk := some scope }
def compE : Nat → CC → Expr → Option E
  | 0, _, _ => none
  | n + 1, cc, e => match e with
    | .Constant .none _ _ => some (.c .non)
    | .Constant (.bool b) _ _ => some (.c (.bl b))
    | .Constant (.int i) _ _ => some (.c (.int i))
    | .Constant (.str s) _ _ => some (.c (.str s))
    | .Name x _ => compName cc x
    | .BinOp a op b _ => if cc.calm then match compE n cc a, compE n cc b with
      | some x, some y => some (.bin op x y)
      | _, _ => none
      else none
    | .UnaryOp .USub a _ => match compE n cc a with
      | some x => some (.neg x)
      | none => none
    | .UnaryOp .Not a _ => match compE n cc a with
      | some x => some (.not x)
      | none => none
    | .BoolOp .And [a] pos => compE n cc a
    | .BoolOp .Or [a] pos => compE n cc a
    | .BoolOp .And (a :: b :: r) pos => match compE n cc a, compE n cc (.BoolOp .And (b :: r) pos) with
      | some x, some y => some (.and x y)
      | _, _ => none
    | .BoolOp .Or (a :: b :: r) pos => match compE n cc a, compE n cc (.BoolOp .Or (b :: r) pos) with
      | some x, some y => some (.or x y)
      | _, _ => none
    | .Compare a [op] [b] _ => if behindInMarks op b = false ∧ cc.calm = true then match compE n cc a, compE n cc b with
      | some x, some y => some (.cmp op x y)
      | _, _ => none
      else none
    | .Compare a [o1, o2] [b, c] _ => if lastMarks [o1, o2] [b, c] = false ∧ cc.calm = true then match compE n cc a, compE n cc b, compE n cc c with
      | some x, some y, some z => some (.chain o1 o2 x y z)
      | _, _, _ => none
      else none
    | .IfExp t a b _ => match compE n cc t, compE n cc a, compE n cc b with
      | some x, some y, some z => some (.ite x y z)
      | _, _, _ => none
    | .Subscript a (.Slice lo hi none _) _ => match compE n cc a, compO (compE n cc) lo, compO (compE n cc) hi with
      | some x, some l, some h => some (.cut x l h)
      | _, _, _ => none
    | .Subscript a s _ => if notSlice s then match compE n cc a, compE n cc s with
      | some x, some y => some (.idx x y)
      | _, _ => none
      else none
    | .Tuple es _ _ => match compL (compE n cc) es with
      | some l => some (.tup l)
      | none => none
    | .List es _ => match compL (compE n cc) es with
      | some l => some (.lst l)
      | none => none
    | .Call (.Name x _) es [] _ =>
      if x = "isinstance" then match cc.glob x, es with
        | some .free, [a, .Tuple ts _ _] => match compE n cc a, compTys cc ts with
          | some y, some cs => if cs ≠ [] ∧ cs.length ≤ 1000 then some (.isi y cs) else none
          | _, _ => none
        | some .free, [a, t] => match compE n cc a, compTy cc t with
          | some y, some c => some (.isi y [c])
          | _, _ => none
        | _, _ => none
      else match cc.glob x with
        | some .fn => if x = "list" then none else match compL (compE n cc) es with
          | some l => some (.call x l)
          | none => none
        | some .free => if cc.calm then match biOf x, es with
          | some b, _ :: _ => match compL (compE n cc) es with
            | some l => some (.bi b l)
            | none => none
          | _, _ => none
          else none
        | _ => none
    | .Call (.Attribute o m apos) es [] pos => if cc.calm = true ∧ (apos.endLine == pos.line) = true ∧ plainO o = true ∧ es.length < 30 then match meOf m, compE n cc o, compL (compE n cc) es with
      | some b, some x, some q => some (.meth b x q)
      | _, _, _ => none
      else none
    | .ListComp a [⟨t, it, c, 0⟩] scope _ => if cc.calm = true ∧ blkC cc.N cc.sc scope (ownOf cc.N scope) = true then
        match compI (compE n cc) cc t it, compG (compE n (cc.inner scope)) (cc.inner scope) ((ownOf cc.N scope).map (·.2)) n t, compIf (compE n (cc.inner scope)) c, compE n (cc.inner scope) a with
        | some i, some g, some b, some x => some (.comp ((ownOf cc.N scope).map (·.2)) x i (.one g b))
        | _, _, _, _ => none
      else none
    | _ => none

/-! ### statements -/
def isComp : Expr → Bool
  | .ListComp .. | .SetComp .. | .DictComp .. => true
  | _ => false
/-- a new list, for sure -/
def newish : Expr → Bool
  | .ListComp .. | .List .. | .BinOp .. => true
  | .Call (.Name x _) (_ :: _) [] _ => decide (x = "list")
  | _ => false
def compE' (cc : CC) (n : Nat) (mat : Bool) (e : Expr) : Option E := match compE n cc e with
  | some a => if mat = true ∧ newish e = true then some (.mat a) else some a
  | none => none
def plainSto (cc : CC) (x : Str) : Option Nat := if plainName x = true then cc.store x else none
def plainLoc (cc : CC) (x : Str) : Option Nat := if plainName x = true ∧ cc.sc.names.lookup x = some .local then cc.store x else none
/-- a, b = x, y: the machine stores the names from the right -/
def swap2 (p q : Pos) (x y : Str) (a b : Expr) : Bool := decide (q.line = p.line) && noStar a && noStar b && decide (x ≠ y) && !(foldedForSure 8 a && foldedForSure 8 b) && !(constantsAlone 8 a && constantsAlone 8 b)
def swap3 (p q r : Pos) (x y z : Str) (a b c : Expr) : Bool := decide (q.line = p.line) && decide (r.line = p.line) && noStar a && noStar b && noStar c && decide (x ≠ y) && decide (x ≠ z) && decide (y ≠ z) &&
  !(foldedForSure 8 a && foldedForSure 8 b && foldedForSure 8 c) && !(constantsAlone 8 a && constantsAlone 8 b && constantsAlone 8 c)
def nameOf : Expr → Option Str
  | .Name x _ => some x
  | _ => none
/-- what is no such assignment -/
def noSwap (ts vs : List Expr) : Bool := !(ts.length == 2 || ts.length == 3) || vs.length != ts.length || vs.all (foldedForSure 8)
def noSwapE (cc : CC) (t e : Expr) : Bool := match t, e with
  | .Tuple ts _ _, .Tuple vs _ _ => noSwap ts vs
  | _, _ => true
def isList : Expr → Bool
  | .List .. => true
  | _ => false
def isName : Expr → Bool
  | .Name .. => true
  | _ => false
/-- one target, any value that is no comprehension -/
def compAsg (n : Nat) (cc : CC) (t e : Expr) : Option S :=
  if isComp e = false ∧ cc.calm = true ∧ noSwapE cc t e = true ∧ noStar t = true ∧ isName t = false then match compG (compE n cc) cc (List.range cc.N.length) n t, compE n cc e with
    | some t, some a => some (.asg t a)
    | _, _ => none
  else none
def compSs (f : Stmt → Option S) : List Stmt → Option SL
  | [] => some .nil
  | s :: r => match f s, compSs f r with
    | some a, some q => some (.cons a q)
    | _, _ => none
def compAssign (n : Nat) (cc : CC) (ts : List Expr) (e : Expr) : Option S := match ts, e with
  | [.Name x _], e => match plainSto cc x, compE' cc n (cc.muts.contains x) e with
      | some i, some a => match e with
        | .SetComp .. | .DictComp .. => none
        | _ => some (.asg (.v i) a)
      | _, _ => none
  | [.Tuple [.Name x p, .Name y q] k1 p1], .Tuple [a, b] k2 p2 =>
      if cc.calm = true ∧ swap2 p q x y a b = true then match plainLoc cc x, plainLoc cc y, compL (compE n cc) [a, b] with
        | some i, some j, some l => if i ≠ j then some (.par [i, j] l) else none
        | _, _, _ => none
      else compAsg n cc (.Tuple [.Name x p, .Name y q] k1 p1) (.Tuple [a, b] k2 p2)
  | [.Tuple [.Name x p, .Name y q, .Name z r] k1 p1], .Tuple [a, b, c] k2 p2 =>
      if cc.calm = true ∧ swap3 p q r x y z a b c = true then match plainLoc cc x, plainLoc cc y, plainLoc cc z, compL (compE n cc) [a, b, c] with
        | some i, some j, some k, some l => if i ≠ j ∧ i ≠ k ∧ j ≠ k then some (.par [i, j, k] l) else none
        | _, _, _, _ => none
      else compAsg n cc (.Tuple [.Name x p, .Name y q, .Name z r] k1 p1) (.Tuple [a, b, c] k2 p2)
  | [t], e => compAsg n cc t e
  | _, _ => none
def compRaise (cc : CC) (e : Expr) : Option S := match e with
  | .Call (.Name c _) [.Constant (.str m) _ _] [] _ => if cc.calm then match cc.glob c with
    | some .exc => some (.raise c (.cons (.c (.str m)) .nil))
    | _ => none
    else none
  | _ => none
/-- one clause -/
def compHs (f : Stmt → Option S) (cc : CC) (hs : List ExceptHandler) : Option HL := match hs with
  | [.ExceptHandler (some (.Name c _)) (some x) (s0 :: sr) _] => if cc.calm then match cc.glob c, plainLoc cc x, compSs f (s0 :: sr) with
    | some .exc, some i, some h => some (.cons c (some i) h .nil)
    | _, _, _ => none
    else none
  | [.ExceptHandler (some (.Name c _)) none (s0 :: sr) _] => if cc.calm then match cc.glob c, compSs f (s0 :: sr) with
    | some .exc, some h => some (.cons c none h .nil)
    | _, _ => none
    else none
  | _ => none
def compS : Nat → CC → Stmt → Option S
  | 0, _, _ => none
  | n + 1, cc, st => match st with
    | .Assign ts e _ => compAssign n cc ts e
    | .AugAssign (.Name x _) .Add e _ => if cc.calm = true then match plainSto cc x, compE n cc e with
      | some i, some a => some (.aug i .Add a)
      | _, _ => none
      else none
    | .Expr e _ => if isComp e then none else match compE n cc e with
      | some a => some (.ex a)
      | none => none
    | .Return (some e) _ => match compE' cc n cc.ret e with
      | some a => some (.ret a)
      | none => none
    | .Return none _ => some .retN
    | .If t a b _ => match compE n cc t, compSs (compS n cc) a, compSs (compS n cc) b with
      | some t, some a, some b => some (.ite t a b)
      | _, _, _ => none
    | .For t it b [] _ => if cc.calm then match compI (compE n cc) cc t it, compG (compE n cc) cc (List.range cc.N.length) n t, compSs (compS n cc) b with
      | some i, some g, some q => some (.for g i q)
      | _, _, _ => none
      else none
    | .While t b [] _ => match compE n cc t, compSs (compS n cc) b with
      | some t, some q => some (.while t q)
      | _, _ => none
    | .Raise (some e) none _ => compRaise cc e
    | .Try b hs [] [] _ => match compSs (compS n cc) b, compHs (compS n { cc with calm := false }) cc hs with
      | some q, some h => some (.try q h)
      | _, _ => none
    | .Pass _ => some .pass
    | .Break _ => some .brk
    | .Continue _ => some .cont
    | _ => none
end Pi

set_option maxRecDepth 100000
/-! Pi, part K: the readings of expressions. -/
namespace Pi
open PySem PySem.Spec PyProof.Rows L2

section
variable {X : L2.Cx} {g : Gn} {hot : Option HotI} {W : WX} {a b c e : Expr} {es : List Expr} {pos : Pos} {fa fb fc : Env → Sto → Res D}
abbrev SE (X : L2.Cx) (g : Gn) (hot : Option HotI) (W : WX) (e : Expr) (f : Env → Sto → Res D) : Prop := PE X e (rdE g hot W f)
abbrev ST (X : L2.Cx) (g : Gn) (hot : Option HotI) (W : WX) (e : Expr) (f : Env → Sto → Res Bool) : Prop := PT X e (rdT g hot W f)
abbrev SA (X : L2.Cx) (g : Gn) (hot : Option HotI) (W : WX) (es : List Expr) (f : Env → Sto → Res (List D)) : Prop := PA X es (rdL g hot W f)

theorem Pst.assoc {m x : List Addr} {H : Hp} {σ : L2.St} {α β γ δ : Type} {rel : List Addr → List Addr → Hp → γ → δ → Prop} {Q : δ → Hp → Prop} {r : Res α} {k : α → Sto → Res β} {fin : β → Sto → Res γ}
    (P : Pst g W m x σ H rel Q ((r.bind k).bind fin)) : Pst g W m x σ H rel Q (r.bind fun a s => (k a s).bind fin) := Res.bind_assoc r k fin ▸ P
/-- what becomes of a value -/
def finR (mt : Bool) : D → Sto → Res D := if mt then matR else fun d s => .ok d s
theorem fin_false (r : Res D) : r.bind (finR false) = r := Res.bind_id r
theorem fin_true (r : Res D) : r.bind (finR true) = r.bind matR := rfl
abbrev tru (d : D) (s : Sto) : Res Bool := Res.of (truth s d) s

section
variable {m x : List Addr} {H H' : Hp} {σ : L2.St} {s : Sto} {d : D} {v : V}
/-- a new list becomes the store's -/
theorem SRel.push (sr : SRel g m x H s) {p : Addr} {ds : List D} {vs : List V} (hp : H p = none) (h : DRels g m x H ds vs) :
    Step m H (m ++ [p]) (upd H p (.lst vs)) ∧ SRel g (m ++ [p]) x (upd H p (.lst vs)) (s ++ [.lst ds]) := by
  have st : Step m H (m ++ [p]) (upd H p (.lst vs)) := ⟨List.prefix_append _ _, fun a o e _ => by rw [upd_ne (ne_of_none e hp)]; exact e, fun a ha => by
    rcases List.mem_append.mp ha with z | z
    · exact .inl z
    · have : a = p := by simpa using z
      exact .inr (this ▸ hp)⟩
  obtain ⟨n1, n2⟩ := sr.fresh hp
  refine ⟨st, ⟨by simp [sr.len], List.nodup_append.mpr ⟨sr.nd, by simp, fun a ha b hb => by
    have : b = p := by simpa using hb
    rintro rfl
    exact n1 (this ▸ ha)⟩, fun i o a h1 h2 => ?_, fun a ha => ?_, fun a ha z => ?_⟩⟩
  · by_cases hi : i < s.length
    · rw [List.getElem?_append_left hi] at h1
      rw [List.getElem?_append_left (by rw [sr.len]; exact hi)] at h2
      exact (sr.obj i o a h1 h2).step st (upd_ne fun z => n1 (z ▸ List.mem_of_getElem? h2))
    · have hi' : i = s.length := by
        have := (List.getElem?_eq_some_iff.mp h1).1
        simp at this
        omega
      subst hi'
      rw [List.getElem?_append_right (Nat.le_refl _)] at h1
      rw [← sr.len, List.getElem?_append_right (Nat.le_refl _)] at h2
      simp at h1 h2
      subst h1 h2
      exact ⟨vs, upd_same, h.step st⟩
  · obtain ⟨u, e, q⟩ := sr.xs a ha
    exact ⟨u, by rw [upd_ne (ne_of_none e hp)]; exact e, q⟩
  · rcases List.mem_append.mp z with z | z
    · exact sr.ap a ha z
    · have : a = p := by simpa using z
      exact n2 (this ▸ ha)
/-- a primitive's answer, whatever becomes of it -/
theorem Gv.fin (mt : Bool) {Q : VK} (sr : SRel g m x H s) (h : Gv g hot m x H d v H') (P : Pst g W m x σ H (DX g hot) Q (finR mt d s)) : Q v H' := by
  cases mt with
  | false =>
    obtain ⟨s1, s2, s3⟩ := h.steps sr
    exact P m H' v s1 s2 s3
  | true =>
    unfold finR matR at P
    simp only [if_true] at P
    split at P
    · rename_i ds
      rcases h with ⟨_, n, _⟩ | ⟨_, _, _, z, _⟩ | ⟨p, vs, es, z, rfl, hp, rfl, h⟩
      · exact absurd rfl (n _)
      · cases z
      · cases z
        obtain ⟨st, sr'⟩ := sr.push hp h
        exact P _ _ _ st sr' (.inr ⟨p, by rw [← sr.len, List.getElem?_append_right (Nat.le_refl _)]; simp, rfl⟩)
    · exact P.elim
end

/-- a primitive of two values -/
theorem two {γ δ : Type} {rel : List Addr → List Addr → Hp → γ → δ → Prop} {p : Sto → D → D → Option D} {fin : D → Sto → Res γ} {Q : δ → Hp → Prop} {Q' : VK} {σ : L2.St} {H : Hp}
    (h : Rd' g hot W rel (fun e s => ((fa e s).bind fun x s1 => (fb e s1).bind fun y s2 => Res.of (p s2 x y) s2).bind fin) σ H Q)
    (hf : ∀ m x s d1 d2 d v H H', SRel g m x H s → Gv g hot m x H d v H' → p s d1 d2 = some d → Pst g W m x σ H rel Q (fin d s) → Q' v H') :
    tOp (rPr g hot p) (rdE g hot W fa) (rdE g hot W fb) σ H Q' := by
  obtain ⟨m, x, e, s, rl, P⟩ := h
  replace P := Pst.assoc P
  refine ⟨m, x, e, s, rl, (Pst.bind P).imp fun v1 H1 ⟨d1, s1, m1, st1, sr1, r1, P1⟩ => ⟨m1, x, e, s1, rl.step st1 sr1, (Pst.bind (Pst.assoc P1)).imp fun v2 H2 ⟨d2, s2, m2, st2, sr2, r2, P2⟩ => ?_⟩⟩
  obtain ⟨d, e3, P3⟩ : ∃ d, p s2 d1 d2 = some d ∧ Pst g W m2 x σ H2 rel Q (fin d s2) := by
    cases e : p s2 d1 d2 with
    | none => rw [e] at P2; exact P2.elim
    | some d => rw [e] at P2; exact ⟨d, rfl, P2⟩
  exact ⟨m2, x, s2, d1, d2, d, sr2, r1.step st2, r2, e3, fun v H' gv => hf m2 x s2 d1 d2 d v H2 H' sr2 gv e3 P3⟩
theorem one {γ δ : Type} {rel : List Addr → List Addr → Hp → γ → δ → Prop} {fin : D → Sto → Res γ} {Q : δ → Hp → Prop} {Q' : VK} {σ : L2.St} {H : Hp}
    (h : Rd' g hot W rel (fun e s => (fa e s).bind fin) σ H Q)
    (hf : ∀ m x s d v H, SRel g m x H s → DX g hot m x H d v → Pst g W m x σ H rel Q (fin d s) → Q' v H) : rdE g hot W fa σ H Q' := by
  obtain ⟨m, x, e, s, rl, P⟩ := h
  exact ⟨m, x, e, s, rl, (Pst.bind P).imp fun v1 H1 ⟨d1, s1, m1, st1, sr1, r1, P1⟩ => hf m1 x s1 d1 v1 H1 sr1 r1 P1⟩

/-! ### leaves -/
theorem se_const {d : D} {v : V} (h : PE X e (tC v)) (hd : ∀ m x H, DRel g m x H d v) : SE X g hot W e (fun _ s => .ok d s) :=
  h.imp fun σ H Q ⟨m, x, e, s, rl, P⟩ => P.ok rl.sr (.inr (hd _ _ _))
def getV (i : Nat) (e : Env) (s : Sto) : Res D := match e[i]? with
  | some (some d) => .ok d s
  | _ => .stuck
theorem se_var {i : Nat} {n : Str} (hN : X.N[i]? = some n) (hv : Vis X.env.scope n) (hd : (n == ("__debug__" : Str)) = false) (hcd : (n == ("__classdict__" : Str)) = false) : SE X g hot W (.Name n pos) (getV i) :=
  (pe_var hN hv hd hcd).imp fun σ H Q ⟨m, x, e, s, rl, P⟩ => by
    unfold getV at P
    split at P
    · rename_i d hd
      obtain ⟨v, e1, r⟩ := rl.er.at_ i d hd
      exact ⟨v, e1, P.ok rl.sr r⟩
    · exact P.elim
/-! ### operators -/
theorem se_bin (hK : X.K = g.K) (op : Operator) (mt : Bool) (ha : SE X g hot W a fa) (hb : SE X g hot W b fb) :
    SE X g hot W (.BinOp a op b pos) (fun e s => ((fa e s).bind fun x s1 => (fb e s1).bind fun y s2 => Res.of (binD op s2 x y) s2).bind (finR mt)) :=
  (pe_op (op_bin hK op) ha hb).imp fun σ H Q h => two h fun m x s d1 d2 d v H H' sr gv _ P => gv.fin mt sr P
theorem se_neg (ha : SE X g hot W a fa) : SE X g hot W (.UnaryOp .USub a pos) (fun e s => (fa e s).bind fun x s1 => Res.of (negD x) s1) :=
  (pe_un (un_negD (g := g) (hot := hot)) ha).imp fun σ H Q h => one h fun m x s d v H sr r P => by
    obtain ⟨d', e1, P⟩ := P.of
    exact ⟨m, x, s, d, d', sr, r, e1, fun v H' gv => let ⟨s1, s2, s3⟩ := gv.steps sr; P m H' v s1 s2 s3⟩
theorem se_cmp (hK : X.K = g.K) (hu : X.A.units + 64 < cLine) (op : CmpOp) (hm : behindInMarks op b = false) (ha : SE X g hot W a fa) (hb : SE X g hot W b fb) :
    SE X g hot W (.Compare a [op] [b] pos) (fun e s => (fa e s).bind fun x s1 => (fb e s1).bind fun y s2 => Res.of ((cmpD op s2 x y).map .bl) s2) :=
  (pe_cmpR (op_cmpD hK hu op) ha hb hm).imp fun σ H Q h => two (fin := fun d s => .ok d s) (by simpa only [Res.bind_id] using h : Rd' g hot W (DX g hot) _ σ H Q) fun m x s d1 d2 d v H H' sr gv _ P => gv.fin false sr P
theorem bool_gv {m x : List Addr} {H H' : Hp} {b : Bool} {v : V} (gv : Gv g hot m x H (.bl b) v H') : v = .bl b ∧ H' = H := by
  rcases gv with ⟨rfl, _, h⟩ | ⟨_, _, _, z, _⟩ | ⟨_, _, _, z, _⟩
  · exact ⟨h.bl, rfl⟩
  · cases z
  · cases z
theorem st_cmp (hK : X.K = g.K) (hu : X.A.units + 64 < cLine) (op : CmpOp) (hm : behindInMarks op b = false) (ha : SE X g hot W a fa) (hb : SE X g hot W b fb) :
    ST X g hot W (.Compare a [op] [b] pos) (fun e s => tst ((fa e s).bind fun x s1 => (fb e s1).bind fun y s2 => Res.of ((cmpD op s2 x y).map .bl) s2)) :=
  (pt_cmpR (op_cmpD hK hu op) ha hb hm).imp fun σ H Q h => two (fin := tru) h fun m x s d1 d2 d v H H' sr gv e P => by
    obtain ⟨k, e, rfl⟩ := Option.map_eq_some_iff.mp e
    obtain ⟨rfl, rfl⟩ := bool_gv gv
    exact ⟨k, rfl, P.ok sr rfl⟩
/-- a op b op' c -/
def chainR (fa fb fc : Env → Sto → Res D) (o1 o2 : CmpOp) (e : Env) (s : Sto) : Res D := (fa e s).bind fun x s1 => (fb e s1).bind fun y s2 => (Res.of (cmpD o1 s2 x y) s2).bind fun k s3 =>
    if k then (fc e s3).bind fun z s4 => Res.of ((cmpD o2 s4 y z).map .bl) s4 else .ok (.bl false) s3
theorem chain_of {o1 o2 : CmpOp} {γ δ : Type} {rel : List Addr → List Addr → Hp → γ → δ → Prop} {fin : D → Sto → Res γ} {Q : δ → Hp → Prop} {Q' : VK} {σ : L2.St} {H : Hp} (h : Rd' g hot W rel (fun e s => (chainR fa fb fc o1 o2 e s).bind fin) σ H Q)
    (hf : ∀ m x s k H, SRel g m x H s → Pst g W m x σ H rel Q (fin (.bl k) s) → Q' (.bl k) H) :
    tChain (rPr g hot fun s a b => (cmpD o1 s a b).map .bl) (rPr g hot fun s a b => (cmpD o2 s a b).map .bl) (rdE g hot W fa) (rdE g hot W fb) (rdE g hot W fc) σ H Q' := by
  obtain ⟨m, x, e, s, rl, P⟩ := h
  unfold chainR at P
  replace P := Pst.assoc P
  refine ⟨m, x, e, s, rl, (Pst.bind P).imp fun v1 H1 ⟨d1, s1, m1, st1, sr1, r1, P1⟩ => ⟨m1, x, e, s1, rl.step st1 sr1, (Pst.bind (Pst.assoc P1)).imp fun v2 H2 ⟨d2, s2, m2, st2, sr2, r2, P2⟩ => ?_⟩⟩
  replace P2 := Pst.assoc P2
  cases e1 : cmpD o1 s2 d1 d2 with
  | none => rw [e1] at P2; exact P2.elim
  | some k =>
    rw [e1] at P2
    refine ⟨m2, x, s2, d1, d2, .bl k, sr2, r1.step st2, r2, by show (cmpD o1 s2 d1 d2).map D.bl = _; rw [e1]; rfl, fun v H' gv => ?_⟩
    obtain ⟨rfl, rfl⟩ := bool_gv gv
    refine ⟨k, rfl, ?_⟩
    cases k with
    | false => exact hf m2 x s2 false _ sr2 P2
    | true =>
      rw [if_pos rfl]
      refine ⟨m2, x, e, s2, (rl.step st1 sr1).step st2 sr2, (Pst.bind (Pst.assoc (show Pst g W m2 x σ _ rel Q (((fc e s2).bind fun z s4 => Res.of ((cmpD o2 s4 d2 z).map D.bl) s4).bind fin) from P2))).imp fun v3 H3 ⟨d3, s3, m3, st3, sr3, r3, P3⟩ => ?_⟩
      cases e2 : cmpD o2 s3 d2 d3 with
      | none => rw [e2] at P3; exact P3.elim
      | some k2 =>
        rw [e2] at P3
        refine ⟨m3, x, s3, d2, d3, .bl k2, sr3, r2.step st3, r3, by show (cmpD o2 s3 d2 d3).map D.bl = _; rw [e2]; rfl, fun v H' gv => ?_⟩
        obtain ⟨rfl, rfl⟩ := bool_gv gv
        exact hf m3 x s3 k2 _ sr3 P3
theorem se_chain (hK : X.K = g.K) (hu : X.A.units + 64 < cLine) (o1 o2 : CmpOp) (hm : lastMarks [o1, o2] [b, c] = false) (ha : SE X g hot W a fa) (hb : SE X g hot W b fb) (hc : SE X g hot W c fc) :
    SE X g hot W (.Compare a [o1, o2] [b, c] pos) (chainR fa fb fc o1 o2) :=
  (pe_chain (op_cmpD hK hu o1) (op_cmpD hK hu o2) ha hb hc hm).imp fun σ H Q h => chain_of (fin := fun d s => .ok d s) (by simpa only [Res.bind_id] using h : Rd' g hot W (DX g hot) _ σ H Q) fun m x s k H sr P => P.ok sr (.inr rfl)
theorem st_chain (hK : X.K = g.K) (hu : X.A.units + 64 < cLine) (o1 o2 : CmpOp) (hm : lastMarks [o1, o2] [b, c] = false) (ha : SE X g hot W a fa) (hb : SE X g hot W b fb) (hc : SE X g hot W c fc) :
    ST X g hot W (.Compare a [o1, o2] [b, c] pos) (fun e s => tst (chainR fa fb fc o1 o2 e s)) :=
  (pt_chain (op_cmpD hK hu o1) (op_cmpD hK hu o2) ha hb hc hm).imp fun σ H Q h => chain_of (fin := tru) h fun m x s k H sr P => ⟨k, rfl, P.ok sr rfl⟩

/-! ### truth -/
theorem truth_rel {K : PySem.W.Frag} (hK : K = g.K) {m x : List Addr} {H : Hp} {s : Sto} {d : D} {v : V} {k : Bool} (sr : SRel g m x H s) (h : DX g hot m x H d v) (e : truth s d = some k) : TruV K v H k := by
  unfold truth at e
  split at e
  · cases e; cases h.non; rfl
  · cases e; cases h.bl; rfl
  · cases e; cases h.int; rfl
  · rename_i y
    split at e
    · rename_i hz
      cases e; cases h.str
      refine ⟨hz, ?_⟩
      cases y.length with
      | zero => rfl
      | succ n => simp <;> omega
    · cases e
  · obtain ⟨ds, e1, rfl⟩ := Option.map_eq_some_iff.mp e
    obtain ⟨a, vs, rfl, q, hd⟩ := seqOf_rel sr h e1
    have : ds.isEmpty = vs.isEmpty := by
      have := hd.length
      cases ds <;> cases vs <;> simp_all
    subst hK
    rcases q with q | q
    · exact .inl ⟨vs, q, by rw [this]⟩
    · exact .inr (.inl ⟨vs, q, by rw [this]⟩)
theorem st_truth (hK : X.K = g.K) (ha : SE X g hot W a fa) (he : ∀ whole, isTrue a X.env whole = (do let v ← whole; standAt a.pos; holding [v] (truthy v))) : ST X g hot W a (fun e s => tst (fa e s)) :=
  (pt_truth ha he).imp fun σ H Q h => one (fin := tru) h fun m x s d v H sr r P => by
    obtain ⟨k, e, P⟩ := P.of
    exact ⟨k, truth_rel hK sr r e, P.ok sr rfl⟩
theorem se_not (hK : X.K = g.K) (ha : SE X g hot W a fa) : SE X g hot W (.UnaryOp .Not a pos) (fun e s => (tst (fa e s)).bind fun k s1 => .ok (.bl (!k)) s1) :=
  (pe_notT ha).imp fun σ H Q h => one (rel := DX g hot) (γ := D) (fin := fun d s => (tru d s).bind fun k s1 => Res.ok (D.bl (!k)) s1) (Q := Q) (by simpa only [tst, Res.bind_assoc] using h) fun m x s d v H sr r P => by
    cases e : truth s d with
    | none => rw [tru, e] at P; exact P.elim
    | some k =>
      rw [tru, e] at P
      exact ⟨k, hK ▸ truth_rel rfl sr r e, P.ok sr (.inr rfl)⟩
theorem st_not {ta : Env → Sto → Res Bool} (ha : ST X g hot W a ta) : ST X g hot W (.UnaryOp .Not a pos) (fun e s => (ta e s).bind fun k s1 => .ok (!k) s1) :=
  (pt_not ha).imp fun σ H Q ⟨m, x, e, s, rl, P⟩ => ⟨m, x, e, s, rl, (Pst.bind P).imp fun k H1 ⟨k', s1, m1, st1, sr1, r1, P1⟩ => by
    subst r1
    exact P1.ok sr1 rfl⟩
def orR (fa fb : Env → Sto → Res D) (e : Env) (s : Sto) : Res D := (fa e s).bind fun x s1 => (Res.of (truth s1 x) s1).bind fun k s2 => if k then .ok x s2 else fb e s2
def andR (fa fb : Env → Sto → Res D) (e : Env) (s : Sto) : Res D := (fa e s).bind fun x s1 => (Res.of (truth s1 x) s1).bind fun k s2 => if k then fb e s2 else .ok x s2
theorem se_or (hK : X.K = g.K) {r : List Expr} (ha : SE X g hot W a fa) (hb : SE X g hot W (.BoolOp .Or (b :: r) pos) fb) : SE X g hot W (.BoolOp .Or (a :: b :: r) pos) (orR fa fb) :=
  (pe_orT ha hb).imp fun σ H Q ⟨m, x, e, s, rl, P⟩ => ⟨m, x, e, s, rl, (Pst.bind P).imp fun v H1 ⟨d, s1, m1, st1, sr1, r1, P1⟩ => by
    cases e1 : truth s1 d with
    | none => rw [e1] at P1; exact P1.elim
    | some k =>
      rw [e1] at P1
      refine ⟨k, hK ▸ truth_rel rfl sr1 r1 e1, ?_⟩
      cases k with
      | true => exact P1.ok sr1 r1
      | false => exact ⟨m1, x, e, s1, rl.step st1 sr1, P1⟩⟩
theorem se_and (hK : X.K = g.K) {r : List Expr} (ha : SE X g hot W a fa) (hb : SE X g hot W (.BoolOp .And (b :: r) pos) fb) : SE X g hot W (.BoolOp .And (a :: b :: r) pos) (andR fa fb) :=
  (pe_andT ha hb).imp fun σ H Q ⟨m, x, e, s, rl, P⟩ => ⟨m, x, e, s, rl, (Pst.bind P).imp fun v H1 ⟨d, s1, m1, st1, sr1, r1, P1⟩ => by
    cases e1 : truth s1 d with
    | none => rw [e1] at P1; exact P1.elim
    | some k =>
      rw [e1] at P1
      refine ⟨k, hK ▸ truth_rel rfl sr1 r1 e1, ?_⟩
      cases k with
      | true => exact ⟨m1, x, e, s1, rl.step st1 sr1, P1⟩
      | false => exact P1.ok sr1 r1⟩
theorem tst_or {e : Env} {s : Sto} : tst (orR fa fb e s) = (tst (fa e s)).bind fun k s1 => if k then .ok true s1 else tst (fb e s1) := by
  unfold orR tst
  simp only [Res.bind_assoc]
  congr 1; funext d s1
  cases h : truth s1 d with
  | none => rfl
  | some k => cases k <;> simp [h]
theorem tst_and {e : Env} {s : Sto} : tst (andR fa fb e s) = (tst (fa e s)).bind fun k s1 => if k then tst (fb e s1) else .ok false s1 := by
  unfold andR tst
  simp only [Res.bind_assoc]
  congr 1; funext d s1
  cases h : truth s1 d with
  | none => rfl
  | some k => cases k <;> simp [h]
abbrev SW (X : L2.Cx) (g : Gn) (hot : Option HotI) (W : WX) (e : Expr) (f : Env → Sto → Res Bool) : Prop := PW X e (rdT g hot W f)
theorem _root_.L2.PW.imp {X : L2.Cx} {e : Expr} {t t' : TT} (h : PW X e t) (i : ∀ σ H Q, t' σ H Q → t σ H Q) : PW X e t' := ⟨fun wh pins s σ H Q I q => h.run wh pins s σ H Q I (i σ H Q q)⟩
theorem sw_or {r : List Expr} {ta tb : Env → Sto → Res Bool} (ha : ST X g hot W a ta) (hb : SW X g hot W (.BoolOp .Or (b :: r) pos) tb) :
    SW X g hot W (.BoolOp .Or (a :: b :: r) pos) (fun e s => (ta e s).bind fun k s1 => if k then .ok true s1 else tb e s1) :=
  (pw_or ha hb).imp fun σ H Q ⟨m, x, e, s, rl, P⟩ => ⟨m, x, e, s, rl, (Pst.bind P).imp fun k H1 ⟨k', s1, m1, st1, sr1, r1, P1⟩ => by
    subst r1
    cases k' with
    | true => exact P1.ok sr1 rfl
    | false => exact ⟨m1, x, e, s1, rl.step st1 sr1, P1⟩⟩
theorem sw_and {r : List Expr} {ta tb : Env → Sto → Res Bool} (ha : ST X g hot W a ta) (hb : SW X g hot W (.BoolOp .And (b :: r) pos) tb) :
    SW X g hot W (.BoolOp .And (a :: b :: r) pos) (fun e s => (ta e s).bind fun k s1 => if k then tb e s1 else .ok false s1) :=
  (pw_and ha hb).imp fun σ H Q ⟨m, x, e, s, rl, P⟩ => ⟨m, x, e, s, rl, (Pst.bind P).imp fun k H1 ⟨k', s1, m1, st1, sr1, r1, P1⟩ => by
    subst r1
    cases k' with
    | false => exact P1.ok sr1 rfl
    | true => exact ⟨m1, x, e, s1, rl.step st1 sr1, P1⟩⟩
theorem se_if {ta : Env → Sto → Res Bool} (ht : ST X g hot W c ta) (ha : SE X g hot W a fa) (hb : SE X g hot W b fb) : SE X g hot W (.IfExp c a b pos) (fun e s => (ta e s).bind fun k s1 => if k then fa e s1 else fb e s1) :=
  (pe_ifExp ht ha hb).imp fun σ H Q ⟨m, x, e, s, rl, P⟩ => ⟨m, x, e, s, rl, (Pst.bind P).imp fun k H1 ⟨k', s1, m1, st1, sr1, r1, P1⟩ => by
    subst r1
    cases k' with
    | true => exact ⟨m1, x, e, s1, rl.step st1 sr1, P1⟩
    | false => exact ⟨m1, x, e, s1, rl.step st1 sr1, P1⟩⟩

/-! ### subscripts -/
theorem se_idx (hK : X.K = g.K) (hs : PlainIx b) (ha : SE X g hot W a fa) (hb : SE X g hot W b fb) :
    SE X g hot W (.Subscript a b pos) (fun e s => (fa e s).bind fun x s1 => (fb e s1).bind fun y s2 => Res.of (idxD s2 x y) s2) :=
  (pe_ix (ix_any (hot := hot) hK) ha hb hs).imp fun σ H Q ⟨m, x, e, s, rl, P⟩ => ⟨m, x, e, s, rl, (Pst.bind P).imp fun v1 H1 ⟨d1, s1, m1, st1, sr1, r1, P1⟩ => ⟨m1, x, e, s1, rl.step st1 sr1, (Pst.bind P1).imp fun v2 H2 ⟨d2, s2, m2, st2, sr2, r2, P2⟩ => by
    obtain ⟨d, e3, P3⟩ := P2.of
    exact ⟨m2, x, s2, d1, d2, d, sr2, r1.step st2, r2, e3, fun v dv => P3.ok sr2 dv⟩⟩⟩
/-- a slice's end -/
abbrev SO (X : L2.Cx) (g : Gn) (hot : Option HotI) (W : WX) (e : Option Expr) (f : Env → Sto → Res (Option Int)) : Prop := PO X e (Rd' g hot W (fun _ _ _ a b => a = b) f)
theorem se_cut (hK : X.K = g.K) {lo hi : Option Expr} {fl fh : Env → Sto → Res (Option Int)} {p2 : Pos} (ha : SE X g hot W a fa) (hl : SO X g hot W lo fl) (hh : SO X g hot W hi fh) :
    SE X g hot W (.Subscript a (.Slice lo hi none p2) pos) (fun e s => (fa e s).bind fun x s1 => (fl e s1).bind fun l s2 => (fh e s2).bind fun h s3 => Res.of (cutAt s3 x l h) s3) :=
  (pe_slice (sl_any (hot := hot) hK) ha hl hh).imp fun σ H Q ⟨m, x, e, s, rl, P⟩ => ⟨m, x, e, s, rl, (Pst.bind P).imp fun v1 H1 ⟨d1, s1, m1, st1, sr1, r1, P1⟩ => ⟨m1, x, e, s1, rl.step st1 sr1, (Pst.bind P1).imp fun v2 H2 ⟨d2, s2, m2, st2, sr2, r2, P2⟩ =>
    ⟨m2, x, e, s2, (rl.step st1 sr1).step st2 sr2, (Pst.bind P2).imp fun v3 H3 ⟨d3, s3, m3, st3, sr3, r3, P3⟩ => by
      subst r2 r3
      obtain ⟨d, e3, P3⟩ := P3.of
      exact ⟨m3, x, s3, d1, d, sr3, (r1.step st2).step st3, e3, fun v H' gv => let ⟨q1, q2, q3⟩ := gv.steps sr3; P3 m3 H' v q1 q2 q3⟩⟩⟩⟩

/-! ### lists of expressions, displays -/
theorem sa_nil : SA X g hot W [] (fun _ s => .ok [] s) := pa_nil.imp fun σ H Q ⟨m, x, e, s, rl, P⟩ => P.ok rl.sr rfl
theorem sa_cons {fr : Env → Sto → Res (List D)} (ha : SE X g hot W a fa) (hr : SA X g hot W es fr) (hs : starEach (a :: es) X.env = (false, eval a X.env) :: starEach es X.env) :
    SA X g hot W (a :: es) (fun e s => (fa e s).bind fun d s1 => (fr e s1).bind fun ds s2 => .ok (d :: ds) s2) :=
  (pa_cons ha hr hs).imp fun σ H Q ⟨m, x, e, s, rl, P⟩ => ⟨m, x, e, s, rl, (Pst.bind P).imp fun v1 H1 ⟨d1, s1, m1, st1, sr1, r1, P1⟩ => ⟨m1, x, e, s1, rl.step st1 sr1, (Pst.bind P1).imp fun v2 H2 ⟨d2, s2, m2, st2, sr2, r2, P2⟩ =>
    P2.ok sr2 ⟨_, _, rfl, r1.step st2, r2⟩⟩⟩
theorem se_tup {k : Nat} {hd : Option Exc} {fr : Env → Sto → Res (List D)} (h0 : hd.isNone = true → hot = none) (hr : SA X g hot W es fr) :
    SE X g hot W (.Tuple es k pos) (fun e s => (fr e s).bind fun ds s1 => if calmL hd ds then .ok (.tup ds) s1 else .stuck) :=
  (pe_tup hr).imp fun σ H Q ⟨m, x, e, s, rl, P⟩ => ⟨m, x, e, s, rl, (Pst.bind P).imp fun v1 H1 ⟨d1, s1, m1, st1, sr1, r1, P1⟩ => by
    by_cases c : calmL hd d1 = true
    · rw [if_pos c] at P1
      simp only [calmL, Bool.and_eq_true, Bool.or_eq_true, decide_eq_true_eq] at c
      have r := r1.rels (c.1.imp h0 id)
      exact ⟨by rw [← r.length]; exact c.2, fun p hp => P1.tup sr1 r hp⟩
    · rw [if_neg c] at P1
      exact P1.elim⟩
theorem se_lst {hd : Option Exc} {fr : Env → Sto → Res (List D)} (mt : Bool) (h0 : hd.isNone = true → hot = none) (hr : SA X g hot W es fr) :
    SE X g hot W (.List es pos) (fun e s => ((fr e s).bind fun ds s1 => if calmL hd ds then .ok (.lst ds) s1 else .stuck).bind (finR mt)) :=
  (pe_lst hr).imp fun σ H Q ⟨m, x, e, s, rl, P⟩ => by
    replace P := Pst.assoc P
    refine ⟨m, x, e, s, rl, (Pst.bind P).imp fun v1 H1 ⟨d1, s1, m1, st1, sr1, r1, P1⟩ => ?_⟩
    by_cases c : calmL hd d1 = true
    · rw [if_pos c] at P1
      simp only [calmL, Bool.and_eq_true, Bool.or_eq_true, decide_eq_true_eq] at c
      have r := r1.rels (c.1.imp h0 id)
      exact ⟨by rw [← r.length]; exact c.2, fun p hp => (Gv.lst hp r).fin mt sr1 P1⟩
    · rw [if_neg c] at P1
      exact P1.elim
end
end Pi

set_option maxRecDepth 100000
/-! Pi, part L: calls, isinstance, methods of lists, fields of the handled exception. -/
namespace Pi
open PySem PySem.Spec PyProof.Rows L2

/-! ### no star -/
theorem star_cons {e : Expr} {es : List Expr} {env : PySem.Env} (h : noStar e = true) : starEach (e :: es) env = (false, eval e env) :: starEach es env := by
  cases e <;> first | rfl | cases h
theorem star_any : ∀ {es : List Expr} {pos : Pos} {env : PySem.Env}, es.all noStar = true → (backTo pos (starEach es env)).any (·.1) = false
  | [], _, _, _ => rfl
  | e :: es, pos, env, h => by
    simp only [List.all_cons, Bool.and_eq_true] at h
    rw [star_cons h.1]
    show (false || (backTo pos (starEach es env)).any (·.1)) = false
    rw [star_any h.2]; rfl
theorem star_all : ∀ {es : List Expr} {pos : Pos} {env : PySem.Env}, es.all noStar = true → (backTo pos (starEach es env)).all (fun x => !x.1) = true
  | [], _, _, _ => rfl
  | e :: es, pos, env, h => by
    simp only [List.all_cons, Bool.and_eq_true] at h
    rw [star_cons h.1]
    show (true && (backTo pos (starEach es env)).all (fun x => !x.1)) = true
    rw [star_all h.2]; rfl

section
variable {X : L2.Cx} {g : Gn} {hot : Option HotI} {W : WX} {a b c e o : Expr} {es : List Expr} {p pos apos : Pos} {fa fb fc fo : Env → Sto → Res D} {fr : Env → Sto → Res (List D)} {n : Str}

/-! ### built-in functions -/
theorem rBi_of {b : Bi} {mt : Bool} {σ : L2.St} {H : Hp} {Q : VK} (h : rdE g hot W (fun e s => ((fr e s).bind fun ds s1 => Res.of (biD b s1 ds) s1).bind (finR mt)) σ H Q) : tCB (rBi g hot b) (rdL g hot W fr) σ H Q := by
  obtain ⟨m, x, e, s, rl, P⟩ := h
  replace P := Pst.assoc P
  refine ⟨m, x, e, s, rl, (Pst.bind P).imp fun v1 H1 ⟨d1, s1, m1, st1, sr1, r1, P1⟩ => ?_⟩
  cases e : biD b s1 d1 with
  | none => rw [e] at P1; exact P1.elim
  | some d =>
    rw [e] at P1
    exact ⟨m1, x, s1, d1, d, sr1, r1, e, fun v H' gv => gv.fin mt sr1 P1⟩
theorem bi_db (b : Bi) : (b.name == ("__debug__" : Str)) = false := by cases b <;> decide
theorem bi_nm (b : Bi) : b.name ≠ "__name__" := by cases b <;> decide
theorem se_bi (hK : X.K = g.K) (hu : X.A.units + 64 < cLine) (hgu : X.A.guards = some []) (hc : X.calm = true) (b : Bi) (mt : Bool) (hg : Gl X b.name) (hm : X.mg b.name = none) (hst : (a :: es).all noStar = true) (ha : SA X g hot W (a :: es) fr) :
    SE X g hot W (.Call (.Name b.name p) (a :: es) [] pos) (fun e s => ((fr e s).bind fun ds s1 => Res.of (biD b s1 ds) s1).bind (finR mt)) := by
  simp only [List.all_cons, Bool.and_eq_true] at hst
  have cr := cr_bi (hot := hot) hK (.inl hc) hu hgu hc b
  have h1 := star_cons (es := es) (env := X.env) hst.1
  have h2 := star_any (pos := pos) (env := X.env) hst.2
  have q : PE X (.Call (.Name b.name p) (a :: es) [] pos) (tCB (rBi g hot b) (rdL g hot W fr)) := by
    cases b <;> first
      | exact pe_callB cr hg hm (by with_unfolding_all rfl) ha (bi_nm _) (bi_db _) h1 h2
      | exact pe_callTy cr hg hm (by with_unfolding_all rfl) ha (bi_nm _) (bi_db _) h1 h2
  exact q.imp fun σ H Q h => rBi_of h

/-! ### own functions -/
/-- a call of f gives what fn tells -/
def CallP (X : L2.Cx) (g : Gn) (hot : Option HotI) (W : WX) (f : Addr) (fn : List D → Sto → Res D) : Prop :=
  ∀ (pins : List (Addr × PySem.Obj)) (sh : Shared) (σ : L2.St) (H : Hp) (m x : List Addr) (e : Env) (s : Sto) (ds : List D) (vs : List V) (us : List Value) (Q : VK), Inv X pins σ H sh → Rl g hot m x H e s σ → DXs g hot m x H ds vs → Vals vs us →
    Pst g W m x σ H (DX g hot) Q (fn ds s) → wpAny (model X.prog X.w) X.A (call (.ref f) us) (EP X pins σ Q) X.xe sh
def tDo (W : WX) (g : Gn) (hot : Option HotI) (fr : Env → Sto → Res (List D)) (fn : List D → Sto → Res D) : TE := fun σ H Q => rdL g hot W fr σ H fun vs H1 => ∃ m x e s ds, Rl g hot m x H1 e s σ ∧ DXs g hot m x H1 ds vs ∧ Pst g W m x σ H1 (DX g hot) Q (fn ds s)
theorem se_call {f : Addr} {fn : List D → Sto → Res D} (C : CallP X g hot W f fn) (hg : Gl X n) (hm : X.mg n = some (.ref f)) (hk : PySem.W.keepIn X.K (.ref f) = true) (hdb : (n == ("__debug__" : Str)) = false) (hst : (a :: es).all noStar = true) (ha : SA X g hot W (a :: es) fr) :
    SE X g hot W (.Call (.Name n p) (a :: es) [] pos) (fun e s => (fr e s).bind fun ds s1 => fn ds s1) := by
  have q : PE X (.Call (.Name n p) (a :: es) [] pos) (tDo W g hot fr fn) := by
    refine ⟨fun pins s σ H Q I h => ?_⟩
    refine wpAny_Call_Name_kw (ld_glob I hg hm ?_ hdb)
    simp only [List.all_cons, Bool.and_eq_true] at hst
    refine PySem.W.callWith_K (h₀ := X.base) I.ok.mod.kin hk (thn (ha.run pos pins s σ H _ I h) fun us s1 ⟨vs, H1, I1, r, q⟩ => ⟨I1.kIn, ?_⟩) (star_cons hst.1) (star_any hst.2)
    obtain ⟨m, x, e, st, ds, rl, hd, P⟩ := q
    exact C pins s1 σ H1 m x e st ds vs us Q I1 rl hd r P
  exact q.imp fun σ H Q ⟨m, x, e, s, rl, P⟩ => ⟨m, x, e, s, rl, (Pst.bind P).imp fun v1 H1 ⟨d1, s1, m1, st1, sr1, r1, P1⟩ => ⟨m1, x, e, s1, d1, rl.step st1 sr1, r1, P1⟩⟩
theorem se_call0 {f : Addr} {fn : List D → Sto → Res D} (C : CallP X g hot W f fn) (hg : Gl X n) (hm : X.mg n = some (.ref f)) (hk : PySem.W.keepIn X.K (.ref f) = true) (hdb : (n == ("__debug__" : Str)) = false) :
    SE X g hot W (.Call (.Name n p) [] [] pos) (fun e s => fn [] s) := by
  refine ⟨fun pins s σ H Q I ⟨m, x, e, st, rl, P⟩ => ?_⟩
  refine wpAny_Call_Name_kw (ld_glob I hg hm ?_ hdb)
  exact PySem.W.callWith_K0 I.kIn hk (C pins s σ H m x e st [] [] [] Q I rl rfl .nil P)
end
end Pi

set_option maxRecDepth 100000
/-! Pi, part M: isinstance, methods of lists, fields of the handled exception. -/
namespace Pi
open PySem PySem.Spec PyProof.Rows L2

/-! ### isinstance -/
/-- what is told of classes is so -/
def SubOk (g : Gn) (sub : Str → Str → Option Bool) : Prop := ∀ c1 c2 b, sub c1 c2 = some b → ∃ D C, g.mg c1 = some (.ref D) ∧ g.mg c2 = some (.ref C) ∧ ExcC g.K D ∧ PySem.W.kitOne g.K (.ref D) (.ref C) = some b ∧ PySem.W.exmOne g.K (.ref D) (.ref C) = some b
/-- the handled exception's object is pinned -/
def HotOk (X : L2.Cx) (g : Gn) (hot : Option HotI) : Prop := ∀ p, hot = some p → ∃ oe D, (p.a, oe) ∈ X.pn ∧ g.mg p.xc.cls = some (.ref D) ∧ Zc (.ref D) p.dx oe ∧ ∃ vs, oe.data = .fields vs
theorem kitAny_of {K : PySem.W.Frag} {t : Value} {f : D → Option Bool} : ∀ {cs : List D} {us : List Value} {b : Bool}, Paired (fun c u => ∀ b, f c = some b → PySem.W.kitOne K t u = some b) cs us →
    (∀ (cs : List D), True) → (List.foldr (fun c (r : Option Bool) => match f c with | some true => some true | some false => r | none => none) (some false) cs) = some b → PySem.W.kitAny K t us = some b
  | [], _, b, .nil, _, e => by cases e; rfl
  | c :: cs, _, b, .cons h r, _, e => by
    simp only [List.foldr_cons] at e
    cases hf : f c with
    | none => rw [hf] at e; cases e
    | some k =>
      rw [hf] at e
      cases k with
      | true => cases e; exact kitAny_cons (h _ hf) (fun z => by cases z) (fun _ => rfl)
      | false => exact kitAny_cons (h _ hf) (fun _ => kitAny_of r (fun _ => trivial) e) (fun z => by cases z)
theorem isiD_fold (hd : Option Exc) (sub : Str → Str → Option Bool) (s : Sto) (d : D) : ∀ cs, isiD hd sub s d cs = List.foldr (fun c (r : Option Bool) => match tyOf hd sub s d c with | some true => some true | some false => r | none => none) (some false) cs
  | [] => rfl
  | c :: cs => by
    rw [List.foldr_cons, ← isiD_fold hd sub s d cs]
    show (match tyOf hd sub s d c with
      | some true => some true
      | some false => isiD hd sub s d cs
      | none => none) = _
    cases tyOf hd sub s d c with
    | none => rfl
    | some k => cases k <;> rfl
theorem tyKnown_cases {t : String} (h : ¬ tyKnown t = false) : t = "int" ∨ t = "str" ∨ t = "tuple" ∨ t = "list" ∨ t = "bool" := by
  simp only [tyKnown, List.contains_eq_mem, List.mem_cons, List.not_mem_nil, or_false, Bool.not_eq_false, decide_eq_true_eq] at h
  exact h
section
variable {X : L2.Cx} {g : Gn} {hot : Option HotI} {pins : List (Addr × PySem.Obj)} {σ : L2.St} {m x : List Addr} {H : Hp} {sh : Shared} {s : Sto} {sub : Str → Str → Option Bool}
/-- what the library's isinstance rules ask -/
theorem kit_rel (hK : X.K = g.K) (I : Inv X pins σ H sh) (sr : SRel g m x H s) (hs : SubOk g sub) (ho : HotOk X g hot) {d : D} {v : V} {u : Value} (h : DX g hot m x H d v) (r : RelV v u) {c0 : D} {b0 : Bool} (h0 : tyOf (hot.map (·.xc)) sub s d c0 = some b0) :
    ∃ t, (∃ P : Heap → Prop, PySem.W.KitX X.K u t P ∧ P sh.heap ∧ u ≠ .builtin "__main__.__loader__#opaque") ∧
      ∀ (c : D) (cv : V) (cu : Value), DRel g m x H c cv → RelV cv cu → ∀ b, tyOf (hot.map (·.xc)) sub s d c = some b → PySem.W.kitOne X.K t cu = some b := by
  by_cases hx : d = .exn
  · subst hx
    rcases h with ⟨_, p, hp, rfl, xr⟩ | h
    · subst hp
      cases r
      have hfs : p.xc.fs = [] ∧ ∃ y, c0 = .fn y ∧ sub p.xc.cls y = some b0 := by
        unfold tyOf at h0
        split at h0
        · split at h0
          · cases h0
          · cases h0
        · rename_i y
          simp only [Option.map_some] at h0
          split at h0
          · rename_i hf
            exact ⟨List.isEmpty_iff.mp hf, y, rfl, h0⟩
          · cases h0
        · cases h0
      obtain ⟨hfs, y0, rfl, hy0⟩ := hfs
      have hdx : p.dx = none := by
        rcases xr with ⟨_, q⟩ | ⟨n, _⟩
        · exact q
        · exact absurd hfs n
      obtain ⟨oe, D, hin, hcls, hz, hfd⟩ := ho p rfl
      obtain ⟨D', C', e1, e2, ec, _, _⟩ := hs _ _ _ hy0
      rw [hcls] at e1; cases e1
      have J : PySem.W.InstAt sh.heap p.a oe D none := by
        obtain ⟨hget, _⟩ := I.pin (p.a, oe) (List.mem_append_left _ hin)
        obtain ⟨vs, hv⟩ := hfd
        obtain ⟨oc, od, oda, osl⟩ := oe
        obtain ⟨h1, h2⟩ := hz
        dsimp only at h1 h2 hv
        rw [hdx] at h2
        subst h1 h2 hv
        exact ⟨hget, rfl, rfl, trivial⟩
      refine ⟨.ref D, ⟨_, PySem.W.handS_kitx_exc (by rw [hK]; exact ec.hg) (by rw [hK]; exact ec.hk) (by rw [hK]; exact ec.hs) (by rw [hK]; exact ec.hd) (by rw [hK]; exact ec.ha) (by rw [hK]; exact ec.hn) (by rw [hK]; exact ec.ht) (by rw [hK]; exact ec.hm), J, fun z => nomatch z⟩, fun c cv cu hc hr b hb => ?_⟩
      unfold tyOf at hb
      split at hb
      · split at hb
        · cases hb
        · cases hb
      · rename_i y
        simp only [Option.map_some] at hb
        split at hb
        · obtain ⟨D2, C2, e1, e2, _, k, _⟩ := hs _ _ _ hb
          rw [hcls] at e1; cases e1
          obtain ⟨C3, e3, rfl⟩ := hc
          rw [e2] at e3; cases e3
          cases hr
          rw [hK]; exact k
        · cases hb
      · cases hb
    · exact h.elim
  · have hr := h.ne hx
    have key : ∀ (n : String), TyX X.K H v (.type n) → (∀ t b, tyOf (hot.map (·.xc)) sub s d (.ty t) = some b → kitB n t = some b) → (∀ y, tyOf (hot.map (·.xc)) sub s d (.fn y) = none) →
        ∃ t, (∃ P : Heap → Prop, PySem.W.KitX X.K u t P ∧ P sh.heap ∧ u ≠ .builtin "__main__.__loader__#opaque") ∧
      ∀ (c : D) (cv : V) (cu : Value), DRel g m x H c cv → RelV cv cu → ∀ b, tyOf (hot.map (·.xc)) sub s d c = some b → PySem.W.kitOne X.K t cu = some b := fun n ty h1 h2 => ⟨.type n, kit_of I r ty, fun c cv cu hc hr b hb => by
        cases c with
        | ty t =>
          cases (show cv = V.ty t from hc)
          cases (show cu = Value.type t from hr)
          exact kit_ty (h1 t b hb)
        | fn y => rw [h2 y] at hb; cases hb
        | _ => simp [tyOf] at hb⟩
    have nofn : ∀ y, tyOf (hot.map (·.xc)) sub s d (.fn y) = none := fun y => by
      cases d <;> first | rfl | exact absurd rfl hx
    have five : ∀ (n : String) (f : String → Bool), (kitB n "int" = some (f "int") ∧ kitB n "str" = some (f "str") ∧ kitB n "tuple" = some (f "tuple") ∧ kitB n "list" = some (f "list") ∧ kitB n "bool" = some (f "bool")) →
        ∀ t b, (if tyKnown t = false then none else some (f t)) = some b → kitB n t = some b := fun n f ⟨k1, k2, k3, k4, k5⟩ t b e => by
      split at e
      · cases e
      · rename_i hk
        cases e
        rcases tyKnown_cases hk with rfl | rfl | rfl | rfl | rfl
        · exact k1
        · exact k2
        · exact k3
        · exact k4
        · exact k5
    cases d with
    | exn => exact absurd rfl hx
    | non => cases (show v = V.non from hr); exact key "NoneType" (.base .non) (five _ (fun _ => false) (by decide +kernel)) nofn
    | bl b => cases (show v = V.bl b from hr); exact key "bool" (.base (.bl b)) (five _ (fun t => t == "int" || t == "bool") (by decide +kernel)) nofn
    | int i => cases (show v = V.int i from hr); exact key "int" (.base (.int i)) (five _ (fun t => t == "int") (by decide +kernel)) nofn
    | str i => cases (show v = V.str i from hr); exact key "str" (.base (.str i)) (five _ (fun t => t == "str") (by decide +kernel)) nofn
    | tup ds =>
      obtain ⟨a, vs, rfl, q, _⟩ := hr
      refine key "tuple" ?_ (five _ (fun t => t == "tuple") (by decide +kernel)) nofn
      rcases q with ⟨q | ⟨ob, q⟩, _⟩ | ⟨ob, its, n, q, hc, _⟩
      · exact .base (.tup q)
      · exact .fTuple q
      · exact .kTuple (hK ▸ q) hc
    | lst ds =>
      obtain ⟨a, vs, rfl, ⟨q | ⟨ob, q⟩, _⟩, _⟩ := hr
      · exact key "list" (.base (.lst q)) (five _ (fun t => t == "list") (by decide +kernel)) nofn
      · exact key "list" (.base (.frz q)) (five _ (fun t => t == "list") (by decide +kernel)) nofn
    | ref n =>
      obtain ⟨a, hm, rfl⟩ := hr
      have hl : ∃ ds, s[n]? = some (.lst ds) := by
        have hi : n < s.length := by rw [← sr.len]; exact (List.getElem?_eq_some_iff.mp hm).1
        have q := sr.obj n s[n] a (List.getElem?_eq_getElem hi) hm
        unfold ORel at q
        split at q
        · rename_i ds e
          exact ⟨ds, by rw [List.getElem?_eq_getElem hi, e]⟩
        · exact q.elim
      obtain ⟨ds, hn⟩ := hl
      obtain ⟨vs, q1, q2⟩ := sr.obj n _ a hn hm
      exact key "list" (.base (.lst q1)) (fun t b hb => five _ (fun t => t == "list") (by decide +kernel) t b (by simpa [tyOf, hn] using hb)) nofn
    | scr y =>
      exfalso
      unfold tyOf at h0
      split at h0
      · split at h0 <;> cases h0
      · cases h0
      · cases h0
    | fn y =>
      exfalso
      unfold tyOf at h0
      split at h0
      · split at h0 <;> cases h0
      · cases h0
      · cases h0
    | ty y =>
      exfalso
      unfold tyOf at h0
      split at h0
      · split at h0 <;> cases h0
      · cases h0
      · cases h0
/-- isinstance by values: one class, or a tuple of them just laid -/
def rIsD (g : Gn) (hot : Option HotI) (sub : Str → Str → Option Bool) : List V → Hp → VK → Prop := fun vs H Q => ∃ m x s d cs v c b, SRel g m x H s ∧ DX g hot m x H d v ∧ vs = [v, c] ∧ cs ≠ [] ∧
  ((∃ k, cs = [k] ∧ DRel g m x H k c) ∨ (∃ tp cvs, c = .ref tp ∧ H tp = some (.tup cvs) ∧ DRels g m x H cs cvs)) ∧ isiD (hot.map (·.xc)) sub s d cs = some b ∧ Q (.bl b) H
theorem paired_rels {K : PySem.W.Frag} {t : Value} {f : D → Option Bool} (h : ∀ (c : D) (cv : V) (cu : Value), DRel g m x H c cv → RelV cv cu → ∀ b, f c = some b → PySem.W.kitOne K t cu = some b) :
    ∀ {cs : List D} {cvs : List V} {us : List Value}, DRels g m x H cs cvs → Vals cvs us → Paired (fun c u => ∀ b, f c = some b → PySem.W.kitOne K t u = some b) cs us
  | [], _, _, h1, h2 => by cases (show _ = [] from h1); cases h2; exact .nil
  | c :: cs, _, _, ⟨v, r, e, h1, h2⟩, q => by
    subst e
    cases q with
    | cons q1 q2 => exact .cons (h _ _ _ h1 q1) (paired_rels h h2 q2)
theorem cr_isi (hK : X.K = g.K) (hs : SubOk g sub) (ho : HotOk X g hot) : CallR X (.builtin "isinstance") (rIsD g hot sub) := by
  intro pins sh σ H vs us Q I r h
  obtain ⟨m, x, s, d, cs, v, c, b, sr, hd, rfl, hne, hc, e, q⟩ := h
  obtain ⟨u1, u2, rfl, r1, r2⟩ := vals2 r
  have h0 : ∃ c0 b0, tyOf (hot.map (·.xc)) sub s d c0 = some b0 := by
    cases cs with
    | nil => exact absurd rfl hne
    | cons c0 cs =>
      simp only [isiD] at e
      cases h : tyOf (hot.map (·.xc)) sub s d c0 with
      | none => rw [h] at e; cases e
      | some b0 => exact ⟨c0, b0, h⟩
  obtain ⟨c0, b0, h0⟩ := h0
  obtain ⟨t, ⟨P, Z, hp, hx⟩, hk⟩ := kit_rel hK I sr hs ho hd r1 h0
  rcases hc with ⟨k, rfl, hc⟩ | ⟨tp, cvs, rfl, hT, hcs⟩
  · have e1 : tyOf (hot.map (·.xc)) sub s d k = some b := by
      simp only [isiD] at e
      cases h : tyOf (hot.map (·.xc)) sub s d k with
      | none => rw [h] at e; cases e
      | some b0 => rw [h] at e; cases b0 <;> simpa using e
    exact PySem.W.kia_one Z I.kIn hp (hk k c u2 hc r2 b e1) hx fun tk => ⟨.bl b, H, I.tok tk, rfl, q⟩
  · cases (show u2 = Value.ref tp from r2)
    obtain ⟨_, its, rv, o, h1, h2, n, h3⟩ := (show ObjOk X.prog X.w H sh.heap tp (.tup cvs) from I.hok tp _ hT)
    obtain ⟨oc, od, dt, sl⟩ := o
    simp only at h2 h3
    subst h2 h3
    rw [isiD_fold] at e
    exact PySem.W.kia_tup Z I.kIn hp h1 (kitAny_of (paired_rels hk hcs rv) (fun _ => trivial) e) hx fun tk => ⟨.bl b, H, I.tok tk, rfl, q⟩
end
end Pi

set_option maxRecDepth 100000
/-! Pi, part N: isinstance and methods as expressions. -/
namespace Pi
open PySem PySem.Spec PyProof.Rows L2

section
variable {X : L2.Cx} {g : Gn} {hot : Option HotI} {W : WX} {a b c e o : Expr} {es : List Expr} {p pos apos tpos : Pos} {fa fb fc fo : Env → Sto → Res D} {fr : Env → Sto → Res (List D)} {n : Str} {sub : Str → Str → Option Bool}
/-! ### isinstance -/
def isiR (fa : Env → Sto → Res D) (hot : Option HotI) (sub : Str → Str → Option Bool) (cs : List D) (e : Env) (s : Sto) : Res D := (fa e s).bind fun d s1 => Res.of ((isiD (hot.map (·.xc)) sub s1 d cs).map .bl) s1
theorem se_isi1 (hK : X.K = g.K) (hs : SubOk g sub) (ho : HotOk X g hot) (hg : Gl X "isinstance") (hm : X.mg "isinstance" = none) (ha : SE X g hot W a fa) (hst : noStar a = true ∧ noStar c = true) {k : D} {cv : V} (hc : PE X c (tC cv)) (hk : ∀ m x H, DRel g m x H k cv) :
    SE X g hot W (.Call (.Name "isinstance" p) [a, c] [] pos) (isiR fa hot sub [k]) :=
  (pe_callB (cr_isi hK hs ho) hg hm PyProof.Rows.boot_isinstance (pa_cons ha (pa_cons hc pa_nil (star_cons hst.2)) (star_cons hst.1)) (by decide) (by decide) (star_cons hst.1) (star_any (by simp [hst.2]))).imp fun σ H Q ⟨m, x, e, s, rl, P⟩ =>
    ⟨m, x, e, s, rl, (Pst.bind P).imp fun v1 H1 ⟨d1, s1, m1, st1, sr1, r1, P1⟩ => by
      obtain ⟨d, e1, P2⟩ := P1.of
      obtain ⟨b, e2, rfl⟩ := Option.map_eq_some_iff.mp e1
      exact ⟨m1, x, s1, d1, [k], v1, cv, b, sr1, r1, rfl, by simp, .inl ⟨k, rfl, hk _ _ _⟩, e2, P2.ok sr1 (.inr rfl)⟩⟩
theorem tyV_rels {cs : List D} {cvs : List V} (h : cvs.length ≤ sizeLine) : True := trivial
theorem se_isiT (hK : X.K = g.K) (hs : SubOk g sub) (ho : HotOk X g hot) (hg : Gl X "isinstance") (hm : X.mg "isinstance" = none) (ha : SE X g hot W a fa) (hst : noStar a = true) {ts : List Expr} {kk : Nat} {ks : List D} {cvs : List V} (hne : ks ≠ [])
    (hc : PA X ts (fun _ H Q => Q cvs H)) (hz : cvs.length ≤ sizeLine) (hk : ∀ m x H, DRels g m x H ks cvs) :
    SE X g hot W (.Call (.Name "isinstance" p) [a, .Tuple ts kk tpos] [] pos) (isiR fa hot sub ks) :=
  (pe_callB (cr_isi hK hs ho) hg hm PyProof.Rows.boot_isinstance (pa_cons ha (pa_cons (pe_tup hc) pa_nil rfl) (star_cons hst)) (by decide) (by decide) (star_cons hst) rfl).imp fun σ H Q ⟨m, x, e, s, rl, P⟩ =>
    ⟨m, x, e, s, rl, (Pst.bind P).imp fun v1 H1 ⟨d1, s1, m1, st1, sr1, r1, P1⟩ => by
      obtain ⟨d, e1, P2⟩ := P1.of
      obtain ⟨b, e2, rfl⟩ := Option.map_eq_some_iff.mp e1
      exact ⟨hz, fun q hq => ⟨m1, x, s1, d1, ks, v1, .ref q, b, sr1.laid hq, r1.step (Step.laid hq), rfl, hne, .inr ⟨q, cvs, rfl, upd_same, hk _ _ _⟩, e2, P2 m1 _ _ (Step.laid hq) (sr1.laid hq) (.inr rfl)⟩⟩⟩

/-! ### the store's lists are changed -/
section
variable {m m' x : List Addr} {H H' : Hp} {s : Sto} {σ : L2.St}
theorem SRel.ne (sr : SRel g m x H s) {i j : Nat} {p q : Addr} (hi : m[i]? = some p) (hj : m[j]? = some q) (h : i ≠ j) : p ≠ q := by
  rintro rfl
  obtain ⟨h1, e1⟩ := List.getElem?_eq_some_iff.mp hi
  obtain ⟨h2, e2⟩ := List.getElem?_eq_some_iff.mp hj
  exact h ((List.getElem_inj sr.nd).mp (e1.trans e2.symm))
theorem SRel.put (sr : SRel g m x H s) {n : Nat} {p : Addr} (hn : m[n]? = some p) {ds : List D} {vs : List V} (h : DRels g m x H ds vs) :
    Step m H m (upd H p (.lst vs)) ∧ SRel g m x (upd H p (.lst vs)) (s.set n (.lst ds)) := by
  have hp : p ∈ m := List.mem_of_getElem? hn
  have st : Step m H m (upd H p (.lst vs)) := ⟨List.prefix_rfl, fun a o e ha => by rw [upd_ne (fun z => ha (by rw [z]; exact hp))]; exact e, fun a ha => .inl ha⟩
  refine ⟨st, ⟨by simp [sr.len], sr.nd, fun i o a h1 h2 => ?_, fun a ha => ?_, sr.ap⟩⟩
  · by_cases hi : i = n
    · subst hi
      rw [hn] at h2; cases h2
      have : i < s.length := by rw [← sr.len]; exact (List.getElem?_eq_some_iff.mp hn).1
      rw [List.getElem?_set_self this] at h1
      cases h1
      exact ⟨vs, upd_same, h.step st⟩
    · rw [List.getElem?_set_ne (Ne.symm hi)] at h1
      exact (sr.obj i o a h1 h2).step st (upd_ne (sr.ne h2 hn hi))
  · obtain ⟨u, e, q⟩ := sr.xs a ha
    refine ⟨u, ?_, q⟩
    rw [upd_ne (fun z => sr.ap a ha (by rw [z]; exact hp))]
    exact e
theorem SRel.lst_at (sr : SRel g m x H s) {n : Nat} {p : Addr} {ds : List D} (hn : m[n]? = some p) (hs : s[n]? = some (.lst ds)) : ∃ vs, H p = some (.lst vs) ∧ DRels g m x H ds vs := sr.obj n _ p hs hn
end
def Me.id : Me → String
  | .append => "list.append" | .extend => "list.extend" | .pop => "list.pop" | .reverse => "list.reverse"
/-- a method of a list of the store -/
def rMe (g : Gn) (hot : Option HotI) (b : Me) : V → List V → Hp → VK → Prop := fun v vs H Q => ∃ m x s d ds, SRel g m x H s ∧ DX g hot m x H d v ∧ DXs g hot m x H ds vs ∧ Pst g (fun _ _ _ _ => False) m x [] H (DX g hot) Q (methD b s d ds)
theorem mt_extendR : MtM X "list.extend" (fun x vs H Q => ∃ l b xs zs, x = .ref l ∧ vs = [.ref b] ∧ H l = some (.lst xs) ∧ Rd H b (.lst zs) ∧ xs.length + zs.length ≤ sizeLine ∧ l ≠ b ∧ Q .non (upd H l (.lst (xs ++ zs)))) := by
  intro pins s σ H x vs v us Q I rx rv h
  obtain ⟨l, b, xs, zs, rfl, rfl, hH, hB, hz, hne, q⟩ := h
  cases rx
  obtain ⟨u, rfl, ru⟩ := rv.one
  cases ru
  obtain ⟨z, its, n, r, hl, e⟩ := I.lstM hH
  obtain ⟨z2, its2, n2, r2, hl2, e2⟩ := rdl I hB
  have hsz : its.toArray.size + its2.toArray.size ≤ sizeLine := by rw [List.size_toArray, List.size_toArray]; omega
  have hlong : ¬ (!its.toArray.isEmpty && Builtin.List.listTooLong (its.toArray.size + its2.toArray.size)) = true := by
    rw [notLongL hsz, Bool.and_false]
    exact Bool.false_ne_true
  refine call_meets F.slot_list_extend ⟨_, e, rfl⟩ F.entry_list_extend (F.args_list_extend_2 _ _)
    (AutoSeq1.list_extend_list_list_0 l its.toArray n b its2.toArray n2 hlong (by rw [List.size_toArray]; omega) (by omega)) ⟨e, e2, ?_⟩
  refine ⟨.non, _, I.lset (its' := its ++ its2) hH e (by simp) (r.append r2) ?_, rfl, q⟩
  rw [List.length_append]
  omega
theorem mt_me (h0 : hot = none) (b : Me) : MtR X b.id (rMe g hot b) := by
  intro pins sh σ H v vs u us Q I rx rv h
  obtain ⟨m, x, s, d, ds, sr, hd, hds, P⟩ := h
  unfold methD at P
  split at P
  · rename_i n
    obtain ⟨a, hm, rfl⟩ := hd.ne (by simp)
    split at P
    · rename_i xs hxs
      obtain ⟨ws, hH, hw⟩ := sr.lst_at hm hxs
      cases b with
      | append =>
        match ds, P, hds with
        | [d1], P, hds =>
          obtain ⟨v1, rfl, h1⟩ := hds.one
          simp only [methL] at P
          split at P
          · rename_i hz
            have hy : DRels g m x H (xs ++ [d1]) (ws ++ [v1]) := hw.append ⟨_, _, rfl, h1.rel h0, rfl⟩
            obtain ⟨q1, q2⟩ := sr.put hm hy
            exact mt_append pins sh σ H _ _ u us Q I rx rv ⟨a, ws, v1, rfl, rfl, hH, by rw [← hw.length]; exact hz, P m _ _ q1 q2 (.inr rfl)⟩
          · exact P.elim
        | [], P, _ => exact P.elim
        | _ :: _ :: _, P, _ => exact P.elim
      | extend =>
        match ds, P, hds with
        | [d1], P, hds =>
          obtain ⟨v1, rfl, h1⟩ := hds.one
          simp only [methL] at P
          split at P
          · rename_i ys hys
            split at P
            · rename_i hz
              obtain ⟨b, zs, rfl, hB, hb⟩ := listOf_rel sr h1 hys
              obtain ⟨q1, q2⟩ := sr.put hm (hw.append hb)
              refine mt_extendR pins sh σ H _ _ u us Q I rx rv ⟨a, b, ws, zs, rfl, rfl, hH, hB, by rw [← hw.length, ← hb.length]; exact hz.1, ?_, P m _ _ q1 q2 (.inr rfl)⟩
              rintro rfl
              cases d1 with
              | ref k =>
                obtain ⟨a', hk, e⟩ := h1.ne (by simp)
                cases e
                exact hz.2 (by rw [show k = n from Classical.byContradiction fun z => sr.ne hk hm z rfl])
              | lst ls =>
                obtain ⟨a', _, e, ⟨_, hn, _⟩, _⟩ := h1.ne (by simp)
                cases e
                exact hn (List.mem_of_getElem? hm)
              | _ => simp [listOf] at hys
            · exact P.elim
          · exact P.elim
        | [], P, _ => exact P.elim
        | _ :: _ :: _, P, _ => exact P.elim
      | pop =>
        match ds, P, hds with
        | [], P, hds =>
          simp only [methL] at P
          split at P
          · rename_i y hy
            cases (show vs = [] from hds)
            have hy' := hy
            rw [hw.length] at hy
            obtain ⟨w, q3, q4⟩ := hw.get hy'
            obtain ⟨q1, q2⟩ := sr.put hm hw.dropLast
            refine mt_pop pins sh σ H _ _ u us Q I rx rv ⟨a, ws, w, rfl, rfl, hH, by rw [← hw.length]; exact q3, P m _ _ q1 q2 (.inr (q4.step q1))⟩
          · exact P.elim
        | _ :: _, P, _ => exact P.elim
      | reverse =>
        match ds, P, hds with
        | [], P, hds =>
          simp only [methL] at P
          cases (show vs = [] from hds)
          obtain ⟨q1, q2⟩ := sr.put hm hw.reverse
          exact mt_reverse pins sh σ H _ _ u us Q I rx rv ⟨a, ws, rfl, rfl, hH, P m _ _ q1 q2 (.inr rfl)⟩
        | _ :: _, P, _ => exact P.elim
    · exact P.elim
  · exact P.elim
theorem methD_ref {b : Me} {s : Sto} {d : D} {ds : List D} {d' : D} {s' : Sto} (h : methD b s d ds = .ok d' s') : ∃ n, d = .ref n := by
  unfold methD at h
  split at h
  · exact ⟨_, rfl⟩
  · cases h
theorem methD_ok (b : Me) (s : Sto) (d : D) (ds : List D) : methD b s d ds = .stuck ∨ ∃ d' s', methD b s d ds = .ok d' s' := by
  have key : ∀ r : Res D, (∀ e s, r ≠ .exc e s) → r = .stuck ∨ ∃ d' s', r = .ok d' s' := fun r h => by
    cases r with
    | ok d s => exact .inr ⟨d, s, rfl⟩
    | exc e s => exact absurd rfl (h e s)
    | stuck => exact .inl rfl
  refine key _ fun e s' h => ?_
  unfold methD at h
  split at h
  · split at h
    · unfold methL at h
      split at h <;> (repeat' split at h) <;> cases h
    · cases h
  · cases h
theorem attr_base {f : Str} {env : PySem.Env} {w : Sem Value} (h : plainO o = true) : attributeBase o f env w = w := by
  unfold attributeBase
  split
  · cases h
  · rfl
theorem tyV_of {K : PySem.W.Frag} {m x : List Addr} {H : Hp} {s : Sto} {k : Nat} {v : V} (sr : SRel g m x H s) (h : DX g hot m x H (.ref k) v) : tyV K "list" v H := by
  obtain ⟨a, hm, rfl⟩ := h.ne (by simp)
  obtain ⟨vs, e⟩ := sr.has (List.mem_of_getElem? hm)
  exact .inl ⟨rfl, vs, .inl (.inl e)⟩
theorem me_slot (b : Me) : Slot "list" b.name b.id ∧ typeOf (.builtin b.id) = pure (.type "method_descriptor") := by
  cases b
  · exact ⟨PySem.F.slot_list_append, PySem.F.type_list_append⟩
  · exact ⟨PySem.F.slot_list_extend, PySem.F.type_list_extend⟩
  · exact ⟨PySem.F.slot_list_pop, PySem.F.type_list_pop⟩
  · exact ⟨PySem.F.slot_list_reverse, PySem.F.type_list_reverse⟩
def methR (b : Me) (fo : Env → Sto → Res D) (fr : Env → Sto → Res (List D)) (e : Env) (s : Sto) : Res D := (fo e s).bind fun d s1 => if isRef d then (fr e s1).bind fun ds s2 => methD b s2 d ds else .stuck
theorem se_meth (h0 : hot = none) (b : Me) (ho : SE X g hot W o fo) (hp : plainO o = true) (hl : (apos.endLine == pos.line) = true) (hst : (a :: es).all noStar = true) (hlen : (a :: es).length < 30) (ha : SA X g hot W (a :: es) fr) :
    SE X g hot W (.Call (.Attribute o b.name apos) (a :: es) [] pos) (methR b fo fr) := by
  have hst' := hst
  simp only [List.all_cons, Bool.and_eq_true] at hst
  obtain ⟨s1, s2⟩ := me_slot b
  have hfew : ((backTo pos (starEach (a :: es) X.env)).all (fun x => !x.1) && (backToKw pos (keywordEach [] X.env)).all (fun x => x.1.isSome)
      && decide ((a :: es).length + ([] : List Keyword).length + (if ([] : List Keyword).isEmpty then 0 else 1) < 30)) = true := by
    rw [star_all hst']
    show (true && true && decide ((a :: es).length + 0 + 0 < 30)) = true
    simpa using hlen
  refine (pe_bm PySem.F.plainAttrs_list s1 s2 (mt_me (g := g) h0 b) ho ha (attr_base hp) hfew hl (star_cons hst.1) (star_any hst.2)).imp fun σ H Q ⟨m, x, e, s, rl, P⟩ =>
    ⟨m, x, e, s, rl, (Pst.bind P).imp fun v1 H1 ⟨d1, s1, m1, st1, sr1, r1, P1⟩ => ?_⟩
  by_cases hr : isRef d1 = true
  · rw [if_pos hr] at P1
    obtain ⟨k, rfl⟩ : ∃ k, d1 = .ref k := by cases d1 <;> first | exact ⟨_, rfl⟩ | cases hr
    refine ⟨tyV_of sr1 r1, m1, x, e, s1, rl.step st1 sr1, (Pst.bind P1).imp fun v2 H2 ⟨d2, s2, m2, st2, sr2, r2, P2⟩ => ⟨m2, x, s2, .ref k, d2, sr2, r1.step st2, r2, ?_⟩⟩
    rcases methD_ok b s2 (.ref k) d2 with h | ⟨d', s', h⟩
    · rw [h] at P2; exact P2.elim
    · rw [h] at P2 ⊢; exact P2
  · rw [if_neg hr] at P1; exact P1.elim
theorem se_meth0 (h0 : hot = none) (b : Me) (ho : SE X g hot W o fo) (hp : plainO o = true) (hl : (apos.endLine == pos.line) = true) :
    SE X g hot W (.Call (.Attribute o b.name apos) [] [] pos) (methR b fo (fun _ s => .ok [] s)) := by
  obtain ⟨s1, s2⟩ := me_slot b
  refine (pe_bm0 PySem.F.plainAttrs_list s1 s2 (mt_me (g := g) h0 b) ho (attr_base hp) hl).imp fun σ H Q ⟨m, x, e, s, rl, P⟩ =>
    ⟨m, x, e, s, rl, (Pst.bind P).imp fun v1 H1 ⟨d1, s1, m1, st1, sr1, r1, P1⟩ => ?_⟩
  by_cases hr : isRef d1 = true
  · rw [if_pos hr] at P1
    obtain ⟨k, rfl⟩ : ∃ k, d1 = .ref k := by cases d1 <;> first | exact ⟨_, rfl⟩ | cases hr
    refine ⟨tyV_of sr1 r1, m1, x, s1, .ref k, [], sr1, r1, rfl, ?_⟩
    have P1 : Pst g W m1 x σ H1 (DX g hot) Q (methD b s1 (.ref k) []) := P1
    rcases methD_ok b s1 (.ref k) [] with h | ⟨d', s', h⟩
    · rw [h] at P1; exact P1.elim
    · rw [h] at P1 ⊢; exact P1
  · rw [if_neg hr] at P1; exact P1.elim
end
end Pi

set_option maxRecDepth 100000
/-! Pi, part O: what is walked, targets, comprehensions. -/
namespace Pi
open PySem PySem.Spec PyProof.Rows L2

/-! ### the abstract heap under a comprehension's new list -/
section
variable {g : Gn} {hot : Option HotI} {m m' x x' : List Addr} {H H' : Hp} {s : Sto} {σ : L2.St} {e : Env}
theorem SRel.more (sr : SRel g m x H s) {p : Addr} (hp : H p = none) : SRel g m (p :: x) (upd H p (.lst [])) s where
  len := sr.len
  nd := sr.nd
  obj := fun i o a h1 h2 => by
    have q := sr.obj i o a h1 h2
    have ne : a ≠ p := fun z => (sr.fresh hp).1 (z ▸ List.mem_of_getElem? h2)
    unfold ORel at *
    split at q
    · obtain ⟨vs, e, q⟩ := q
      exact ⟨vs, by rw [upd_ne ne]; exact e, (DRels.more hp _ _ q).step (Step.laid hp)⟩
    · exact q
  xs := fun a ha => by
    by_cases z : a = p
    · subst z
      exact ⟨_, upd_same, fun xs => ⟨by simp, fun ob => by simp⟩⟩
    · rcases List.mem_cons.mp ha with y | y
      · exact absurd y z
      · obtain ⟨u, e, q⟩ := sr.xs a y
        exact ⟨u, by rw [upd_ne z]; exact e, q⟩
  ap := fun a ha => by
    rcases List.mem_cons.mp ha with y | y
    · rw [y]; exact (sr.fresh hp).1
    · exact sr.ap a y
theorem noTup {p : Addr} {vs : List V} (h : H p = some (.lst vs)) : ∀ xs, ¬ Rd H p (.tup xs) := fun xs r => by
  rcases r with r | ⟨o, r⟩ <;> (rw [h] at r; cases r)
theorem SRel.turn (sr : SRel g m x H s) {p : Addr} {vs ws : List V} (hp : p ∈ x) (h : H p = some (.lst vs)) : SRel g m x (upd H p (.lst ws)) s where
  len := sr.len
  nd := sr.nd
  obj := fun i o a h1 h2 => by
    have q := sr.obj i o a h1 h2
    have ne : a ≠ p := fun z => sr.ap p hp (z ▸ List.mem_of_getElem? h2)
    unfold ORel at *
    split at q
    · obtain ⟨us, e, q⟩ := q
      exact ⟨us, by rw [upd_ne ne]; exact e, DRels.turn hp (noTup h) _ _ q⟩
    · exact q
  xs := fun a ha => by
    by_cases z : a = p
    · subst z
      exact ⟨_, upd_same, fun xs => ⟨by simp, fun ob => by simp⟩⟩
    · obtain ⟨u, e, q⟩ := sr.xs a ha
      exact ⟨u, by rw [upd_ne z]; exact e, q⟩
  ap := sr.ap
theorem SRel.less (sr : SRel g m x H s) (hx : ∀ a ∈ x', a ∈ x) : SRel g m x' H s where
  len := sr.len
  nd := sr.nd
  obj := fun i o a h1 h2 => by
    have q := sr.obj i o a h1 h2
    unfold ORel at *
    split at q
    · obtain ⟨us, e, q⟩ := q
      exact ⟨us, e, DRels.less hx _ _ q⟩
    · exact q
  xs := fun a ha => sr.xs a (hx a ha)
  ap := fun a ha => sr.ap a (hx a ha)
/-- the new list becomes the store's -/
theorem SRel.join {p : Addr} (sr : SRel g m (p :: x) H s) (hx : p ∉ x) {ds : List D} {vs : List V} (h : H p = some (.lst vs)) (hd : DRels g m (p :: x) H ds vs) : SRel g (m ++ [p]) x H (s ++ [.lst ds]) where
  len := by simp [sr.len]
  nd := List.nodup_append.mpr ⟨sr.nd, by simp, fun a ha b hb => by
    have : b = p := by simpa using hb
    rintro rfl
    exact sr.ap p List.mem_cons_self (this ▸ ha)⟩
  obj := fun i o a h1 h2 => by
    by_cases hi : i < s.length
    · rw [List.getElem?_append_left hi] at h1
      rw [List.getElem?_append_left (by rw [sr.len]; exact hi)] at h2
      have q := sr.obj i o a h1 h2
      unfold ORel at *
      split at q
      · obtain ⟨us, e, q⟩ := q
        exact ⟨us, e, DRels.join (noTup h) _ _ q⟩
      · exact q
    · have hi' : i = s.length := by
        have := (List.getElem?_eq_some_iff.mp h1).1
        simp at this
        omega
      subst hi'
      rw [List.getElem?_append_right (Nat.le_refl _)] at h1
      rw [← sr.len, List.getElem?_append_right (Nat.le_refl _)] at h2
      simp at h1 h2
      subst h1 h2
      exact ⟨vs, h, DRels.join (noTup h) _ _ hd⟩
  xs := fun a ha => sr.xs a (List.mem_cons_of_mem _ ha)
  ap := fun a ha z => by
    rcases List.mem_append.mp z with z | z
    · exact sr.ap a (List.mem_cons_of_mem _ ha) z
    · have : a = p := by simpa using z
      exact hx (this ▸ ha)
/-! environments -/
theorem wipeE_length (e : Env) : ∀ vs : List Nat, (wipeE e vs).length = e.length
  | [] => rfl
  | v :: vs => by unfold wipeE; rw [List.length_set, wipeE_length e vs]
theorem wipeE_some {i : Nat} {d : D} : ∀ {vs : List Nat}, (wipeE e vs)[i]? = some (some d) → e[i]? = some (some d) ∧ i ∉ vs
  | [], h => ⟨h, by simp⟩
  | v :: vs, h => by
    unfold wipeE at h
    by_cases z : v = i
    · subst z
      by_cases hl : v < (wipeE e vs).length
      · rw [List.getElem?_set_self hl] at h; cases h
      · rw [List.getElem?_eq_none (by simp only [List.length_set]; omega)] at h; cases h
    · rw [List.getElem?_set_ne z] at h
      obtain ⟨h1, h2⟩ := wipeE_some h
      exact ⟨h1, fun q => by
        rcases List.mem_cons.mp q with q | q
        · exact z q.symm
        · exact h2 q⟩
theorem ERel.wipe (er : ERel g hot m x H e σ) (vs : List Nat) : ERel g hot m x H (wipeE e vs) (wipe σ vs) where
  len := by rw [wipeE_length, wipe_length]; exact er.len
  at_ := fun i d h => by
    obtain ⟨h1, h2⟩ := wipeE_some h
    obtain ⟨v, q1, q2⟩ := er.at_ i d h1
    exact ⟨v, by rw [wipe_out h2]; exact q1, q2⟩
theorem wipe_eq {σ2 : L2.St} {vs : List Nat} (hl : σ2.length = σ.length) (h : ∀ i, i ∉ vs → σ2[i]? = (wipe σ vs)[i]?) : wipe σ2 vs = wipe σ vs := by
  refine List.ext_getElem? fun i => ?_
  by_cases hi : i ∈ vs
  · have inner : ∀ (τ : L2.St) (vs : List Nat), i ∈ vs → (wipe τ vs)[i]? = if i < τ.length then some none else none := fun τ vs => by
      induction vs with
      | nil => intro h; cases h
      | cons v vs ih =>
        intro h
        unfold wipe
        by_cases z : v = i
        · subst z
          split
          · rename_i hl; rw [List.getElem?_set_self (by rw [wipe_length]; exact hl)]
          · rename_i hl; rw [List.getElem?_eq_none (by simp only [List.length_set, wipe_length]; omega)]
        · rw [List.getElem?_set_ne z]
          exact ih ((List.mem_cons.mp h).resolve_left (Ne.symm z))
    rw [inner σ2 vs hi, inner σ vs hi, hl]
  · rw [wipe_out hi, h i hi]
theorem ERel.more (h0 : hot = none) (er : ERel g hot m x H e σ) {p : Addr} (hp : H p = none) : ERel g hot m (p :: x) (upd H p (.lst [])) e σ :=
  ⟨er.len, fun i d h => let ⟨v, q1, q2⟩ := er.at_ i d h; ⟨v, q1, .inr ((DRel.more hp _ _ (q2.rel h0)).step (Step.laid hp))⟩⟩
theorem ERel.turn (h0 : hot = none) (er : ERel g hot m x H e σ) {p : Addr} {vs ws : List V} (hp : p ∈ x) (h : H p = some (.lst vs)) : ERel g hot m x (upd H p (.lst ws)) e σ :=
  ⟨er.len, fun i d q => let ⟨v, q1, q2⟩ := er.at_ i d q; ⟨v, q1, .inr (DRel.turn hp (noTup h) _ _ (q2.rel h0))⟩⟩
theorem ERel.set (er : ERel g hot m x H e σ) (i : Nat) {d : D} {v : V} (h : DX g hot m x H d v) : ERel g hot m x H (e.set i (some d)) (σ.set i (some v)) where
  len := by simp [er.len]
  at_ := fun j d' q => by
    by_cases z : i = j
    · subst z
      have hl : i < e.length := by
        have := (List.getElem?_eq_some_iff.mp q).1
        simpa using this
      rw [List.getElem?_set_self hl] at q
      cases q
      exact ⟨v, by rw [List.getElem?_set_self (by rw [← er.len]; exact hl)], h⟩
    · rw [List.getElem?_set_ne z] at q ⊢
      exact er.at_ j d' q
end

/-! ### what is walked -/
def Use (g : Gn) (J : It) (ds : List D) (gd : Gd) (deps : List (D × V)) : Prop := ∀ (m x : List Addr) (H : Hp) (s : Sto), SRel g m x H s → held gd s = true → (∀ p ∈ deps, DRel g m x H p.1 p.2) →
  ∀ i, (∀ d, ds[i]? = some d → J.go i H ∧ ∀ v H', J.yld i H v H' → Step m H m H' ∧ SRel g m x H' s ∧ DRel g m x H' d v) ∧ (ds.length ≤ i → J.stop i H)
def JRel (g : Gn) (m x : List Addr) (H : Hp) (p : List D × Gd) (J : It) : Prop := ∃ deps, (∀ q ∈ deps, DRel g m x H q.1 q.2) ∧ Use g J p.1 p.2 deps
section
variable {g : Gn} {hot : Option HotI} {m m' x : List Addr} {H H' : Hp} {s : Sto} {p : List D × Gd} {J : It}
theorem JRel.step (st : Step m H m' H') (h : JRel g m x H p J) : JRel g m' x H' p J := let ⟨d, h1, h2⟩ := h; ⟨d, fun q hq => (h1 q hq).step st, h2⟩
theorem JRel.more (h : JRel g m x H p J) {a : Addr} (ha : H a = none) : JRel g m (a :: x) (upd H a (.lst [])) p J := let ⟨d, h1, h2⟩ := h; ⟨d, fun q hq => (DRel.more ha _ _ (h1 q hq)).step (Step.laid ha), h2⟩
theorem JRel.turn (h : JRel g m x H p J) {a : Addr} {vs ws : List V} (ha : a ∈ x) (e : H a = some (.lst vs)) : JRel g m x (upd H a (.lst ws)) p J := let ⟨d, h1, h2⟩ := h; ⟨d, fun q hq => DRel.turn ha (noTup e) _ _ (h1 q hq), h2⟩
theorem held_one {n : Nat} {ds : List D} (h : held [(n, ds)] s = true) : s[n]? = some (.lst ds) := by simpa [held] using h
/-- a list: one that stays, or one of the store -/
def LSrc (ds : List D) (gd : Gd) (d : D) : Prop := (d = .lst ds ∧ gd = []) ∨ ∃ n, d = .ref n ∧ gd = [(n, ds)]
theorem LSrc.sq {ds : List D} {gd : Gd} {d : D} {a : Addr} (h : LSrc ds gd d) (sr : SRel g m x H s) (hg : held gd s = true) (hd : DRel g m x H d (.ref a)) : ∃ vs, SqL g.K H a vs ∧ DRels g m x H ds vs := by
  rcases h with ⟨rfl, rfl⟩ | ⟨n, rfl, rfl⟩
  · obtain ⟨a', vs, e, q, hs⟩ := hd
    cases e
    exact ⟨vs, .inl q.1, hs⟩
  · obtain ⟨a', hm, e⟩ := hd
    cases e
    obtain ⟨vs, q1, q2⟩ := sr.lst_at hm (held_one hg)
    exact ⟨vs, .inl (.inl q1), q2⟩
theorem LSrc.guard {d : D} {ds : List D} (h : listOf s d = some ds) : LSrc ds (guardOf s d) d := by
  unfold listOf at h
  split at h
  · cases h
    exact .inl ⟨rfl, rfl⟩
  · rename_i n
    split at h
    · rename_i es hs
      cases h
      exact .inr ⟨n, rfl, by simp [guardOf, hs]⟩
    · cases h
  · cases h
theorem guard_tup {ds : List D} : guardOf s (.tup ds) = [] := rfl
theorem jr_list {ds : List D} {gd : Gd} {d : D} {a : Addr} (h : LSrc ds gd d) (hd : DRel g m x H d (.ref a)) : JRel g m x H (ds, gd) (Itl g.K a) :=
  ⟨[(d, .ref a)], by simpa using hd, fun m x H s sr hg hd i => by
    obtain ⟨vs, q, hv⟩ := h.sq sr hg (by simpa using hd)
    refine ⟨fun d e => ?_, fun hl => ⟨vs, q, by rw [← hv.length]; exact hl⟩⟩
    obtain ⟨v, e1, r⟩ := hv.get e
    refine ⟨⟨vs, v, q, e1⟩, fun w H' ⟨y1, y2⟩ => ?_⟩
    subst y1
    have := y2 vs q
    rw [e1] at this; cases this
    exact ⟨Step.refl _ _, sr, r⟩⟩
theorem scr_sq {is : List Int} {v : V} (h : DRel g m x H (.scr is) v) : ∃ a, v = .ref a ∧ SqL g.K H a (is.map .int) := by
  obtain ⟨a, e, r⟩ := h
  exact ⟨a, e, r.imp (fun r => r.1) id⟩
theorem jr_scr {is : List Int} {a : Addr} (hd : DRel g m x H (.scr is) (.ref a)) : JRel g m x H (is.map .int, []) (Itl g.K a) :=
  ⟨[(.scr is, .ref a)], by simpa using hd, fun m x H s sr hg hd i => by
    obtain ⟨a', e0, q⟩ := scr_sq (by simpa using hd : DRel g m x H (.scr is) (.ref a))
    cases e0
    have hv : DRels g m x H (is.map .int) (is.map .int) := DRels.of_ints is
    refine ⟨fun d e => ?_, fun hl => ⟨_, q, by rw [← hv.length]; exact hl⟩⟩
    obtain ⟨v, e1, r⟩ := hv.get e
    refine ⟨⟨_, v, q, e1⟩, fun w H' ⟨y1, y2⟩ => ?_⟩
    subst y1
    have := y2 _ q
    rw [e1] at this; cases this
    exact ⟨Step.refl _ _, sr, r⟩⟩
theorem jr_tup {ds : List D} {a : Addr} (hd : DRel g m x H (.tup ds) (.ref a)) : JRel g m x H (ds, []) (Itt g.K a) :=
  ⟨[(.tup ds, .ref a)], by simpa using hd, fun m x H s sr hg hd i => by
    obtain ⟨a', vs, e0, q, hv⟩ := tup_rel (hot := none) (.inr (by simpa using hd)) rfl
    cases e0
    refine ⟨fun d e => ?_, fun hl => ⟨vs, q, by rw [← hv.length]; exact hl⟩⟩
    obtain ⟨v, e1, r⟩ := hv.get e
    refine ⟨⟨vs, v, q, e1⟩, fun w H' ⟨y1, y2⟩ => ?_⟩
    subst y1
    have := y2 vs q
    rw [e1] at this; cases this
    exact ⟨Step.refl _ _, sr, r⟩⟩
theorem jr_str {t : Str} : JRel g m x H (t.cps.toList.map fun c => .str ⟨#[c]⟩, []) (Its t) :=
  ⟨[], by simp, fun m x H s sr hg hd i => by
    refine ⟨fun d e => ?_, fun hl => by simpa [Its] using hl⟩
    rw [List.getElem?_map] at e
    obtain ⟨c, e1, rfl⟩ := Option.map_eq_some_iff.mp e
    have e2 : t.cps[i]? = some c := by rw [← Array.getElem?_toList]; exact e1
    refine ⟨(Array.getElem?_eq_some_iff.mp e2).1, fun w H' ⟨y1, c', y2, y3⟩ => ?_⟩
    subst y1
    rw [e2] at y2; cases y2
    exact ⟨Step.refl _ _, sr, y3⟩⟩
theorem jr_range {lo : Int} {n : Nat} : JRel g m x H (rangeOf lo n, []) (Itr lo n) :=
  ⟨[], by simp, fun m x H s sr hg hd i => by
    have hl : (rangeOf lo n).length = n := by simp [rangeOf]
    refine ⟨fun d e => ?_, fun h => by rw [hl] at h; exact h⟩
    have hi : i < n := by rw [← hl]; exact (List.getElem?_eq_some_iff.mp e).1
    refine ⟨hi, fun w H' ⟨y1, y2⟩ => ?_⟩
    subst y1
    have : d = .int (lo + i) := by
      unfold rangeOf at e
      rw [List.getElem?_map, List.getElem?_range hi] at e
      exact (Option.some.inj e).symm
    subst this
    exact ⟨Step.refl _ _, sr, y2⟩⟩
end
section
variable {X : L2.Cx} {g : Gn} {hot : Option HotI} {W : WX} {a b c e l tg it : Expr} {es : List Expr} {p pos tpos : Pos} {fa fb : Env → Sto → Res D} {fr : Env → Sto → Res (List D)}
def iAny (K : PySem.W.Frag) (tl : TE) : TI := fun σ H R => tl σ H fun x H1 => (∃ a, x = .ref a ∧ (∃ xs, SqL K H1 a xs) ∧ R (Itl K a) H1) ∨ (∃ a, x = .ref a ∧ (∃ xs, SqT K H1 a xs) ∧ R (Itt K a) H1) ∨ ∃ y, x = .str y ∧ R (Its y) H1
theorem pi_any {tl : TE} (hl : PE X l tl) : PI X tg l (iAny X.K tl) := by
  refine ⟨fun pins s σ H R I h => ?_⟩
  refine thn (hl.run pins s σ H _ I h) fun v s1 ⟨x, H1, I1, r1, q1⟩ => ?_
  rcases q1 with ⟨a, e, ⟨xs, hq⟩, q⟩ | ⟨a, e, ⟨xs, hq⟩, q⟩ | ⟨y, e, q⟩
  · subst e
    cases r1
    obtain ⟨its, rv, p, hz⟩ := I1.list hq
    refine wpAny_pyIter_list p.isList ?_
    refine ⟨s1.heap.objs.size, [s1.heap.objs.size], _, _, H1, rfl, I1.kept (t' := s1.toks) fun b o e => Heap.get?_push_of_some _ e, turn_list a _, ⟨_, Heap.get?_push_size _ rfl, rfl, rfl⟩, fun b hb => ?_, q⟩
    have e : b = s1.heap.objs.size := by simpa using hb
    subst e
    exact I1.fpOk (Nat.le_refl _) (I1.hok.fresh (Nat.le_refl _))
  · subst e
    cases r1
    obtain ⟨its, rv, p, hz⟩ := I1.tuple hq
    refine wpAny_pyIter_tuple (show s1.heap.IsTuple a its.toArray from p) ?_
    refine ⟨s1.heap.objs.size, [s1.heap.objs.size], _, _, H1, rfl, I1.kept (t' := s1.toks) fun b o e => Heap.get?_push_of_some _ e, turn_tuple a _, ⟨_, Heap.get?_push_size _ rfl, rfl, rfl⟩, fun b hb => ?_, q⟩
    have e : b = s1.heap.objs.size := by simpa using hb
    subst e
    exact I1.fpOk (Nat.le_refl _) (I1.hok.fresh (Nat.le_refl _))
  · subst e
    obtain ⟨t, rfl⟩ := r1
    cases ha : y.cps.all (· < 128)
    · exact wpAny_pyIter_wide ha (pi_one (tk := s1.toks) I1 _ (turn_str _ y t "str_iterator" (.inr rfl)) ⟨_, Heap.get?_push_size _ rfl, rfl, rfl⟩ q)
    · exact wpAny_pyIter_ascii ha (pi_one (tk := s1.toks) I1 _ (turn_str _ y t "str_ascii_iterator" (.inl rfl)) ⟨_, Heap.get?_push_size _ rfl, rfl, rfl⟩ q)
abbrev SI (X : L2.Cx) (g : Gn) (hot : Option HotI) (W : WX) (tg it : Expr) (f : Env → Sto → Res (List D × Gd)) : Prop := PI X tg it (Rd' g hot W (fun m x H p J => JRel g m x H p J) f)
theorem _root_.L2.PI.imp {X : L2.Cx} {tg it : Expr} {t t' : TI} (h : PI X tg it t) (i : ∀ σ H R, t' σ H R → t σ H R) : PI X tg it t' := ⟨fun pins s σ H Q I q => h.run pins s σ H Q I (i σ H Q q)⟩
theorem si_ex (hK : X.K = g.K) (h0 : hot = none) (ha : SE X g hot W it fa) : SI X g hot W tg it (fun e s => (fa e s).bind fun d s1 => match itemsOf s1 d with
    | some ds => .ok (ds, guardOf s1 d) s1
    | none => .stuck) :=
  (pi_any ha).imp fun σ H R ⟨m, x, e, s, rl, P⟩ => ⟨m, x, e, s, rl, (Pst.bind P).imp fun v H1 ⟨d, s1, m1, st1, sr1, r1, P1⟩ => by
    split at P1
    · rename_i ds hi
      unfold itemsOf at hi
      split at hi
      · cases hi; cases r1.str
        exact .inr (.inr ⟨_, rfl, P1.ok sr1 jr_str⟩)
      · cases hi
        obtain ⟨a, rfl, q⟩ := scr_sq (r1.ne (by simp))
        exact .inl ⟨a, rfl, ⟨_, hK ▸ q⟩, hK ▸ P1.ok sr1 (jr_scr (r1.rel h0))⟩
      · unfold seqOf at hi
        split at hi
        · cases hi
          obtain ⟨a, vs, rfl, q, hv⟩ := tup_rel r1 rfl
          exact .inr (.inl ⟨a, rfl, ⟨vs, hK ▸ q⟩, hK ▸ P1.ok sr1 (jr_tup (r1.ne (by simp)))⟩)
        · have hl := LSrc.guard hi
          obtain ⟨a, vs, rfl, q, hv⟩ := listOf_rel sr1 r1 hi
          exact .inl ⟨a, rfl, ⟨vs, .inl q⟩, hK ▸ P1.ok sr1 (jr_list hl (r1.rel h0))⟩
    · exact P1.elim⟩
def rangeK (ds : List D) (s1 : Sto) : Res (List D × Gd) := match rangeD ds with
    | some ds => .ok (ds, []) s1
    | none => .stuck
theorem small62_iff {i : Int} (h : small62 i = true) : -(2 ^ 62) ≤ i ∧ i < 2 ^ 62 := by simpa [small62] using h
theorem si_range1 (hst : noStar a = true) (hg : Gl X "range") (hm : X.mg "range" = none) (ha : SE X g hot W a fa) : SI X g hot W tg (.Call (.Name "range" p) [a] [] pos) (fun e s => (fa e s).bind fun d s1 => rangeK [d] s1) :=
  (pi_range1 hg hm (pa_cons ha pa_nil (star_cons hst)) (star_cons hst)).imp fun σ H R ⟨m, x, e, s, rl, P⟩ => ⟨m, x, e, s, rl, (Pst.bind P).imp fun v H1 ⟨d, s1, m1, st1, sr1, r1, P1⟩ => by
    show ∃ j : Int, _
    cases d with
    | int j =>
      cases r1.int
      unfold rangeK rangeD at P1
      by_cases hj : small62 j = true
      · simp only [hj, if_true] at P1
        obtain ⟨q1, q2⟩ := small62_iff hj
        exact ⟨j, rfl, q1, q2, P1.ok sr1 jr_range⟩
      · simp only [hj, if_false] at P1
        exact P1.elim
    | _ => exact P1.elim⟩
theorem si_range2 (hst : noStar a = true) (hst2 : noStar b = true) (hg : Gl X "range") (hm : X.mg "range" = none) (ha : SE X g hot W a fa) (hb : SE X g hot W b fb) :
    SI X g hot W tg (.Call (.Name "range" p) [a, b] [] pos) (fun e s => (fa e s).bind fun d s1 => (fb e s1).bind fun d2 s2 => rangeK [d, d2] s2) :=
  (pi_range2 hg hm (pa_cons ha (pa_cons hb pa_nil (star_cons hst2)) (star_cons hst)) (by rw [star_cons hst, star_cons hst2]; rfl) (star_cons hst2)).imp fun σ H R ⟨m, x, e, s, rl, P⟩ => ⟨m, x, e, s, rl, (Pst.bind P).imp fun v H1 ⟨d, s1, m1, st1, sr1, r1, P1⟩ =>
    ⟨m1, x, e, s1, rl.step st1 sr1, (Pst.bind P1).imp fun v2 H2 ⟨d2, s2, m2, st2, sr2, r2, P2⟩ => by
    have r1 := r1.step st2
    show ∃ i j : Int, _
    cases d with
    | int i =>
      cases d2 with
      | int j =>
        cases r1.int; cases r2.int
        unfold rangeK rangeD at P2
        by_cases hi : small62 i = true
        · by_cases hj : small62 j = true
          · simp only [hi, hj, Bool.and_self, if_true] at P2
            obtain ⟨q1, q2⟩ := small62_iff hi
            obtain ⟨q3, q4⟩ := small62_iff hj
            exact ⟨i, j, rfl, ⟨q1, q2, q3, q4⟩, P2.ok sr2 jr_range⟩
          · simp [hi, hj] at P2
            exact P2.elim
        · simp [hi] at P2
          exact P2.elim
      | _ => exact P2.elim
    | _ => exact P2.elim⟩⟩

/-! ### targets -/
/-- what is wished behind a store -/
def PstG (g : Gn) (hot : Option HotI) (vs : List Nat) (m x : List Addr) (σ : L2.St) (H : Hp) (Q : L2.St → Hp → Prop) : Res Env → Prop
  | .ok e' s' => ∀ m' H' σ', Step m H m' H' → Rl g hot m' x H' e' s' σ' → (∀ i, i ∉ vs → σ'[i]? = σ[i]?) → Q σ' H'
  | _ => False
def rdG (g : Gn) (hot : Option HotI) (vs : List Nat) (f : D → Env → Sto → Res Env) : L2.TG := fun v σ H Q => ∃ m x e s d, Rl g hot m x H e s σ ∧ DX g hot m x H d v ∧ PstG g hot vs m x σ H Q (f d e s)
abbrev SG (X : L2.Cx) (g : Gn) (hot : Option HotI) (vs : List Nat) (tg : Expr) (f : D → Env → Sto → Res Env) : Prop := PG X tg (rdG g hot vs f)
theorem _root_.L2.PG.imp {X : L2.Cx} {tg : Expr} {t t' : L2.TG} (h : PG X tg t) (i : ∀ v σ H R, t' v σ H R → t v σ H R) : PG X tg t' := ⟨fun pins s σ H v u Q I r q => h.run pins s σ H v u Q I r (i v σ H Q q)⟩
def setV (i : Nat) (d : D) (e : Env) (s : Sto) : Res Env := if i < e.length then .ok (e.set i (some d)) s else .stuck
theorem sg_name {i : Nat} {n : Str} {vs : List Nat} (hN : X.N.Nodup) (hi : X.N[i]? = some n) (hx : Loc X.env.scope n) (hf : X.fn n = true ∨ X.env.scope.names.lookup n = some .local) (hv : i ∈ vs) : SG X g hot vs (.Name n pos) (setV i) :=
  (pg_name hN hi hx hf).imp fun v σ H Q ⟨m, x, e, s, d, rl, dx, P⟩ => by
    unfold setV at P
    split at P
    · exact P m H _ (Step.refl _ _) ⟨rl.er.set i dx, rl.sr⟩ fun j hj => by rw [List.getElem?_set_ne (fun z => hj (by rw [← z]; exact hv))]
    · exact P.elim
/-- several, one after another -/
def rdGs (g : Gn) (hot : Option HotI) (vs : List Nat) (f : List D → Env → Sto → Res Env) : TGs := fun ws σ H Q => ∃ m x e s ds, Rl g hot m x H e s σ ∧ DRels g m x H ds ws ∧ PstG g hot vs m x σ H Q (f ds e s)
abbrev SGs (X : L2.Cx) (g : Gn) (hot : Option HotI) (vs : List Nat) (ts : List Expr) (f : List D → Env → Sto → Res Env) : Prop := PGs X ts (rdGs g hot vs f)
theorem _root_.L2.PGs.imp {X : L2.Cx} {ts : List Expr} {t t' : TGs} (h : PGs X ts t) (i : ∀ v σ H R, t' v σ H R → t v σ H R) : PGs X ts t' := ⟨fun pins s σ H v u Q I r q => h.run pins s σ H v u Q I r (i v σ H Q q)⟩
def nilG (ds : List D) (e : Env) (s : Sto) : Res Env := match ds with
    | [] => .ok e s
    | _ => .stuck
def consG (f : D → Env → Sto → Res Env) (fs : List D → Env → Sto → Res Env) (ds : List D) (e : Env) (s : Sto) : Res Env := match ds with
    | d :: q => (f d e s).bind fun e1 s1 => fs q e1 s1
    | [] => .stuck
theorem sgs_nil {vs : List Nat} : SGs X g hot vs [] nilG := pgs_nil.imp fun ws σ H Q ⟨m, x, e, s, ds, rl, dr, P⟩ => by
  cases ds with
  | nil => exact ⟨dr, P m H σ (Step.refl _ _) rl fun _ _ => rfl⟩
  | cons d r => exact P.elim
theorem PstG.step {vs : List Nat} {m m' x : List Addr} {σ σ' : L2.St} {H H' : Hp} {Q : L2.St → Hp → Prop} {r : Res Env} (P : PstG g hot vs m x σ H Q r) (st : Step m H m' H') (hσ : ∀ i, i ∉ vs → σ'[i]? = σ[i]?) : PstG g hot vs m' x σ' H' Q r := by
  cases r with
  | ok e s => exact fun m2 H2 σ2 st2 rl h => P m2 H2 σ2 (st.trans st2) rl fun i hi => (h i hi).trans (hσ i hi)
  | _ => exact P
theorem sgs_cons {vs : List Nat} {t : Expr} {ts : List Expr} {f : D → Env → Sto → Res Env} {fs : List D → Env → Sto → Res Env} (h1 : SG X g hot vs t f) (h2 : SGs X g hot vs ts fs)
    (hs : (assignEach (t :: ts) X.env).map (·.2) = assign t X.env :: (assignEach ts X.env).map (·.2)) : SGs X g hot vs (t :: ts) (consG f fs) :=
  (pgs_cons h1 h2 hs).imp fun ws σ H Q ⟨m, x, e, s, ds, rl, dr, P⟩ => by
    cases ds with
    | nil => exact P.elim
    | cons d r =>
      obtain ⟨v, w, rfl, d1, d2⟩ := dr
      refine ⟨v, w, rfl, m, x, e, s, d, rl, .inr d1, ?_⟩
      unfold consG at P
      cases hf : f d e s with
      | ok e1 s1 =>
        simp only [hf, Res.bind_ok] at P
        exact fun m' H' σ' st rl' hσ => ⟨m', x, e1, s1, r, rl', d2.step st, P.step st hσ⟩
      | exc _ _ => simp only [hf, Res.bind_exc] at P; exact P.elim
      | stuck => simp only [hf, Res.bind_stuck] at P; exact P.elim
theorem sg_tup (hK : X.K = g.K) (hc : X.calm = true) {vs : List Nat} {ts : List Expr} {kk : Nat} {fs : List D → Env → Sto → Res Env} (h : SGs X g hot vs ts fs) (hst : (assignEach ts X.env).findIdx? (·.1) = none) (hlen : (assignEach ts X.env).length = ts.length)
    (hl : ∀ ds e s, ds.length ≠ ts.length → ∀ e' s', fs ds e s ≠ .ok e' s') :
    SG X g hot vs (.Tuple ts kk pos) (fun d e s => match d with
      | .tup ds => fs ds e s
      | _ => .stuck) :=
  (pg_tup hc h hlen hst).imp fun v σ H Q ⟨m, x, e, s, d, rl, dx, P⟩ => by
    cases d with
    | tup ds =>
      obtain ⟨a, ws, rfl, q, hv⟩ := tup_rel dx rfl
      have P : PstG g hot vs m x σ H Q (fs ds e s) := P
      refine ⟨a, ws, rfl, hK ▸ q, ?_, m, x, e, s, ds, rl, hv, P⟩
      rw [← hv.length]
      refine Classical.byContradiction fun z => ?_
      cases hf : fs ds e s with
      | ok e' s' => exact hl ds e s z e' s' hf
      | exc _ _ => rw [hf] at P; exact P.elim
      | stuck => rw [hf] at P; exact P.elim
    | _ => exact P.elim
end
end Pi

set_option maxRecDepth 100000
/-! Pi, part P: comprehensions of one clause; for, while. -/
namespace Pi
open PySem PySem.Spec PyProof.Rows L2

section
variable {X : L2.Cx} {g : Gn} {hot : Option HotI} {W : WX} {a b c e l tg it elt : Expr} {es : List Expr} {p pos tpos : Pos} {fa fb : Env → Sto → Res D} {fr : Env → Sto → Res (List D)}
/-- a clause's test -/
abbrev STs (X : L2.Cx) (g : Gn) (hot : Option HotI) (W : WX) (ifs : List Expr) (f : Env → Sto → Res Bool) : Prop := PTs X ifs (rdT g hot W f)
theorem _root_.L2.PTs.imp {X : L2.Cx} {ts : List Expr} {t t' : TT} (h : PTs X ts t) (i : ∀ σ H R, t' σ H R → t σ H R) : PTs X ts t' := ⟨fun pins s σ H Q I q => h.run pins s σ H Q I (i σ H Q q)⟩
theorem sts_nil : STs X g hot W [] (fun _ s => .ok true s) := pts_nil.imp fun σ H Q ⟨m, x, e, s, rl, P⟩ => P.ok rl.sr rfl
theorem sts_one {ta : Env → Sto → Res Bool} (h : ST X g hot W c ta) : STs X g hot W [c] ta := pts_one h

abbrev noW : WX := fun _ _ _ _ => False
/-- one turn of a comprehension -/
def turnC (tt : Env → Sto → Res Bool) (fe : Env → Sto → Res D) (e1 : Env) (acc : List D) (s1 : Sto) : Res (List D) :=
  (tt e1 s1).bind fun b s2 => if b then (fe e1 s2).bind fun d s3 => if acc.length < sizeLine then .ok (acc ++ [d]) s3 else .stuck else .ok acc s2
def compR (fi : Env → Sto → Res (List D × Gd)) (gf : D → Env → Sto → Res Env) (tt : Env → Sto → Res Bool) (fe : Env → Sto → Res D) (vs : List Nat) (e : Env) (s : Sto) : Res D :=
  ((fi e s).bind fun p s0 => loopComp p.2 (wipeE e vs) gf (turnC tt fe) p.1 [] s0).calm.bind fun ds s1 => .ok (.lst ds) s1
theorem Pst.calm_ok {m x : List Addr} {σ : L2.St} {H : Hp} {α β : Type} {rel : List Addr → List Addr → Hp → α → β → Prop} {Q : β → Hp → Prop} {r : Res α} (P : Pst g W m x σ H rel Q r.calm) : ∃ a s, r = .ok a s ∧ Pst g W m x σ H rel Q (.ok a s) := by
  cases r with
  | ok a s => exact ⟨a, s, rfl, P⟩
  | exc _ _ => exact P.elim
  | stuck => exact P.elim
/-- what is wished behind the whole comprehension, from a state H0 on -/
def PstC (g : Gn) (m0 x : List Addr) (H0 : Hp) (Q : VK) : Res (List D) → Prop
  | .ok ds s' => ∀ m' H' D vs, Step m0 H0 m' H' → SRel g m' (D :: x) H' s' → D ∉ x → H' D = some (.lst vs) → DRels g m' (D :: x) H' ds vs → H0 D = none → Q (.ref D) H'
  | _ => False
theorem comp_turn (h0 : hot = none) {vs : List Nat} {gf : D → Env → Sto → Res Env} {tt : Env → Sto → Res Bool} {fe : Env → Sto → Res D} {σ : L2.St} {Q : VK} {m1 x : List Addr} {H1 : Hp} {J : It} {ds : List D} {gd : Gd} {e1 : Env} {s1 : Sto}
    (hgl : ∀ d e s e' s', gf d e s = .ok e' s' → e'.length = e.length) (rl : Rl g hot m1 x H1 e1 s1 σ) (jr : JRel g m1 x H1 (ds, gd) J) (P : PstC g m1 x H1 Q (loopComp gd (wipeE e1 vs) gf (turnC tt fe) ds [] s1)) (Dn : Addr) (hD : H1 Dn = none) :
    ∃ Wv : Nat → Nat → Hp → Prop, (∃ m, Wv 0 m (upd H1 Dn (.lst []))) ∧ ∀ i m H, Wv i m H →
      (J.stop i H ∧ Q (.ref Dn) H) ∨ (J.go i H ∧ ∃ Nx : Hp → Prop, (∀ H', Nx H' → ∃ m', m' < m ∧ Wv (i + 1) m' H') ∧ ∀ xv H', J.yld i H xv H' → rdG g hot vs gf xv (wipe σ vs) H' fun σ2 H2 => wipe σ2 vs = wipe σ vs ∧ rdT g hot noW tt σ2 H2 fun b H3 =>
        if b = true then rdE g hot noW fe σ2 H3 fun y H4 => ∃ acc, H4 Dn = some (.lst acc) ∧ acc.length < sizeLine ∧ Nx (upd H4 Dn (.lst (acc ++ [y]))) else Nx H3) := by
  obtain ⟨nm, nx⟩ := rl.sr.fresh hD
  refine ⟨fun i k H => k = ds.length - i ∧ i ≤ ds.length ∧ ∃ m' s' acc accv, Step m1 H1 m' H ∧ Rl g hot m' (Dn :: x) H (wipeE e1 vs) s' (wipe σ vs) ∧ JRel g m' (Dn :: x) H (ds, gd) J ∧ H Dn = some (.lst accv) ∧ DRels g m' (Dn :: x) H acc accv ∧
    PstC g m1 x H1 Q (loopComp gd (wipeE e1 vs) gf (turnC tt fe) (ds.drop i) acc s'), ⟨ds.length, by simp, Nat.zero_le _, m1, s1, [], [], Step.laid hD, ⟨(rl.er.wipe vs).more h0 hD, rl.sr.more hD⟩, jr.more hD, upd_same, rfl, P⟩, ?_⟩
  rintro i k H ⟨rfl, hi, m', s', acc, accv, st, rl', jr', hacc, racc, P'⟩
  obtain ⟨deps, hdeps, use⟩ := id jr'
  by_cases hh : held gd s' = true
  · have U := use m' (Dn :: x) H s' rl'.sr hh hdeps i
    by_cases hlt : i < ds.length
    · refine .inr ⟨(U.1 ds[i] (List.getElem?_eq_getElem hlt)).1, ?_⟩
      rw [List.drop_eq_getElem_cons hlt] at P'
      unfold loopComp at P'
      rw [if_pos hh] at P'
      refine ⟨fun H => i + 1 ≤ ds.length ∧ ∃ m' s' acc accv, Step m1 H1 m' H ∧ Rl g hot m' (Dn :: x) H (wipeE e1 vs) s' (wipe σ vs) ∧ JRel g m' (Dn :: x) H (ds, gd) J ∧ H Dn = some (.lst accv) ∧ DRels g m' (Dn :: x) H acc accv ∧
        PstC g m1 x H1 Q (loopComp gd (wipeE e1 vs) gf (turnC tt fe) (ds.drop (i + 1)) acc s'), fun H' ⟨h1, h2⟩ => ⟨ds.length - (i + 1), by omega, rfl, h1, h2⟩, fun xv H' y => ?_⟩
      obtain ⟨st2, sr2, rd⟩ := (U.1 ds[i] (List.getElem?_eq_getElem hlt)).2 xv H' y
      refine ⟨m', Dn :: x, wipeE e1 vs, s', ds[i], rl'.step st2 sr2, .inr rd, ?_⟩
      cases hg : gf ds[i] (wipeE e1 vs) s' with
      | exc _ _ => rw [hg] at P'; exact P'.elim
      | stuck => rw [hg] at P'; exact P'.elim
      | ok e2 s2 =>
        rw [hg] at P'
        simp only at P'
        intro m2 H2 σ2 st3 rl2 hσ
        have hl : σ2.length = σ.length := by rw [← rl2.er.len, hgl _ _ _ _ _ hg, rl'.er.len, wipe_length]
        refine ⟨wipe_eq hl hσ, m2, Dn :: x, e2, s2, rl2, ?_⟩
        have nD : ∀ {m : List Addr} {H : Hp} {s : Sto}, SRel g m (Dn :: x) H s → Dn ∉ m := fun sr => sr.ap Dn List.mem_cons_self
        have keep : ∀ {m H m' H' s} {vs : List V}, Step m H m' H' → SRel g m (Dn :: x) H s → H Dn = some (.lst vs) → H' Dn = some (.lst vs) := fun st sr h => st.keep _ _ h (nD sr)
        have fin : ∀ {m3 : List Addr} {H3 : Hp} {s3 : Sto}, Step m2 H2 m3 H3 → SRel g m3 (Dn :: x) H3 s3 → Step m' H m3 H3 := fun st4 _ => (st2.trans st3).trans st4
        unfold turnC at P'
        cases ht : tt e2 s2 with
        | exc _ _ => rw [ht] at P'; exact P'.elim
        | stuck => rw [ht] at P'; exact P'.elim
        | ok b s3 =>
          rw [ht] at P'
          intro m3 H3 b' st4 sr3 eb
          subst eb
          have stA := fin st4 sr3
          cases b with
          | false => exact ⟨hlt, m3, s3, acc, accv, st.trans stA, rl'.step stA sr3, jr'.step stA, keep stA rl'.sr hacc, racc.step stA, P'⟩
          | true =>
            refine ⟨m3, Dn :: x, e2, s3, rl2.step st4 sr3, ?_⟩
            simp only [Res.bind_ok, if_true] at P'
            cases he : fe e2 s3 with
            | exc _ _ => rw [he] at P'; exact P'.elim
            | stuck => rw [he] at P'; exact P'.elim
            | ok d s4 =>
              rw [he] at P'
              simp only [Res.bind_ok] at P'
              by_cases hz : acc.length < sizeLine
              · rw [if_pos hz] at P'
                intro m4 H4 y st5 sr4 dy
                have stB := stA.trans st5
                have hB := keep stB rl'.sr hacc
                have rB := DRels.append (es := [d]) (ws := [y]) (racc.step stB) ⟨y, [], rfl, dy.rel h0, rfl⟩
                refine ⟨accv, hB, by rw [← racc.length]; exact hz, hlt, m4, s4, acc ++ [d], accv ++ [y], ?_, ⟨(rl'.er.step stB).turn h0 List.mem_cons_self hB, sr4.turn List.mem_cons_self hB⟩, (jr'.step stB).turn List.mem_cons_self hB, upd_same, DRels.turn List.mem_cons_self (noTup hB) _ _ rB, P'⟩
                have stC := st.trans stB
                exact ⟨stC.pre, fun a o e n => by rw [upd_ne (ne_of_none e hD)]; exact stC.keep a o e n, stC.new⟩
              · rw [if_neg hz] at P'; exact P'.elim
    · have e : i = ds.length := by omega
      subst e
      rw [List.drop_length] at P'
      unfold loopComp at P'
      rw [if_pos hh] at P'
      exact .inl ⟨U.2 (Nat.le_refl _), P' m' H Dn accv st rl'.sr nx hacc racc hD⟩
  · exfalso
    cases hd : ds.drop i with
    | nil => rw [hd] at P'; unfold loopComp at P'; rw [if_neg hh] at P'; exact P'
    | cons d r => rw [hd] at P'; unfold loopComp at P'; rw [if_neg hh] at P'; exact P'
/-- the reading of a comprehension of one clause -/
theorem comp_of (h0 : hot = none) {vs : List Nat} {fi : Env → Sto → Res (List D × Gd)} {gf : D → Env → Sto → Res Env} {tt : Env → Sto → Res Bool} {fe : Env → Sto → Res D} (mt : Bool) {σ : L2.St} {H : Hp} {Q : VK} (hgl : ∀ d e s e' s', gf d e s = .ok e' s' → e'.length = e.length)
    (h : rdE g hot W (fun e s => (compR fi gf tt fe vs e s).bind (finR mt)) σ H Q) :
    tLc (Rd' g hot W (fun m x H p J => JRel g m x H p J) fi) (rdG g hot vs gf) (rdT g hot noW tt) (rdE g hot noW fe) vs σ H Q := by
  obtain ⟨m, x, e, s, rl, P⟩ := h
  refine ⟨m, x, e, s, rl, ?_⟩
  cases hi : fi e s with
  | exc _ _ => simp only [compR, hi, Res.bind_exc] at P; exact P.elim
  | stuck => simp only [compR, hi, Res.bind_stuck] at P; exact P.elim
  | ok p s1 =>
    intro m1 H1 J st1 sr1 jr Dn hD
    simp only [compR, hi, Res.bind_ok] at P
    have P' : PstC g m1 x H1 Q (loopComp p.2 (wipeE e vs) gf (turnC tt fe) p.1 [] s1) := by
      cases hl : loopComp p.2 (wipeE e vs) gf (turnC tt fe) p.1 [] s1 with
      | exc _ _ => rw [hl] at P; exact P
      | stuck => rw [hl] at P; exact P
      | ok ds s2 =>
        rw [hl] at P
        simp only [Res.calm_ok, Res.bind_ok] at P
        intro m' H' D vs' st2 sr2 nx hD2 hv hn
        have st := st1.trans st2
        cases mt with
        | false => exact P m' H' (.ref D) st (sr2.less fun a ha => List.mem_cons_of_mem _ ha) (.inr ⟨D, vs', rfl, ⟨.inl hD2, sr2.ap D List.mem_cons_self, nx⟩, DRels.less (fun a ha => List.mem_cons_of_mem _ ha) _ _ hv⟩)
        | true =>
          refine P (m' ++ [D]) H' (.ref D) ⟨st.pre.trans (List.prefix_append _ _), st.keep, fun a ha => ?_⟩ (sr2.join nx hD2 hv) (.inr ⟨D, by rw [← sr2.len, List.getElem?_append_right (Nat.le_refl _)]; simp, rfl⟩)
          rcases List.mem_append.mp ha with z | z
          · exact st.new a z
          · have : a = D := by simpa using z
            subst this
            right
            cases hx : H a with
            | none => rfl
            | some o =>
              by_cases hm : a ∈ m
              · exact absurd (st2.pre.subset (st1.pre.subset hm)) (sr2.ap a List.mem_cons_self)
              · rw [st1.keep a o hx hm] at hn; cases hn
    exact comp_turn h0 hgl (rl.step st1 sr1) jr P' Dn hD
theorem se_comp (hc : X.calm = true) (h0 : hot = none) (hN : X.N.Nodup) {ifs : List Expr} {scope : Scope} {own : List (Str × Nat)} {fi : Env → Sto → Res (List D × Gd)} {gf : D → Env → Sto → Res Env} {tt : Env → Sto → Res Bool} {fe : Env → Sto → Res D} (mt : Bool) (hgl : ∀ d e s e' s', gf d e s = .ok e' s' → e'.length = e.length)
    (hi : SI X g hot W tg it fi) (ok : BlkOk X.N X.env.scope scope own)
    (hg : ∀ (s : Shared) (H : Hp) (C : Addr) (cl : List (Str × Addr)) (fp : List Addr), SG (X.blk s H scope (compEnvC scope cl C X.env) fp) g hot (own.map (·.2)) tg gf) (ht : ∀ (s : Shared) (H : Hp) (C : Addr) (cl : List (Str × Addr)) (fp : List Addr), STs (X.blk s H scope (compEnvC scope cl C X.env) fp) g hot noW ifs tt)
    (he : ∀ (s : Shared) (H : Hp) (C : Addr) (cl : List (Str × Addr)) (fp : List Addr), SE (X.blk s H scope (compEnvC scope cl C X.env) fp) g hot noW elt fe) (hs : ∀ x, foldedSetIterable it X.env x = pure x) :
    SE X g hot W (.ListComp elt [⟨tg, it, ifs, 0⟩] scope pos) (fun e s => (compR fi gf tt fe (own.map (·.2)) e s).bind (finR mt)) :=
  (pe_lc hc hN hi ok hg ht he hs).imp fun σ H Q h => comp_of h0 mt hgl h
end

/-! ### statements -/
def PstS (g : Gn) (hot : Option HotI) (W : WX) (m x : List Addr) (H : Hp) (D : Ends) : Out → Prop
  | .nx e' s' => ∀ m' H' σ', Step m H m' H' → Rl g hot m' x H' e' s' σ' → D.nx σ' H'
  | .bk e' s' => ∀ m' H' σ', Step m H m' H' → Rl g hot m' x H' e' s' σ' → D.bk σ' H'
  | .ct e' s' => ∀ m' H' σ', Step m H m' H' → Rl g hot m' x H' e' s' σ' → D.ct σ' H'
  | .rt d s' => ∀ m' H' v, Step m H m' H' → SRel g m' x H' s' → DX g hot m' x H' d v → D.rt v H'
  | .exc e' xc s' => ∀ m' H' σ' u dopt, Step m H m' H' → Rl g hot m' x H' e' s' σ' → g.mg xc.cls = some u → XRel g m' x H' xc dopt → W u dopt σ' H'
  | .stuck => False
def rdS (g : Gn) (hot : Option HotI) (W : WX) (f : Env → Sto → Out) : TS := fun D σ H => ∃ m x e s, Rl g hot m x H e s σ ∧ PstS g hot W m x H D (f e s)
abbrev SS (X : L2.Cx) (g : Gn) (hot : Option HotI) (W : WX) (st : Stmt) (f : Env → Sto → Out) : Prop := PS X st (rdS g hot W f)
abbrev SSs (X : L2.Cx) (g : Gn) (hot : Option HotI) (W : WX) (st : List Stmt) (f : Env → Sto → Out) : Prop := PSs X st (rdS g hot W f)
theorem PstS.step {g : Gn} {hot : Option HotI} {W : WX} {m m' x : List Addr} {H H' : Hp} {D : Ends} {r : Out} (P : PstS g hot W m x H D r) (st : Step m H m' H') : PstS g hot W m' x H' D r := by
  cases r with
  | nx e s => exact fun m2 H2 σ2 st2 => P m2 H2 σ2 (st.trans st2)
  | bk e s => exact fun m2 H2 σ2 st2 => P m2 H2 σ2 (st.trans st2)
  | ct e s => exact fun m2 H2 σ2 st2 => P m2 H2 σ2 (st.trans st2)
  | rt d s => exact fun m2 H2 v st2 => P m2 H2 v (st.trans st2)
  | exc e x s => exact fun m2 H2 σ2 u d st2 => P m2 H2 σ2 u d (st.trans st2)
  | stuck => exact P
section
variable {X : L2.Cx} {g : Gn} {hot : Option HotI} {W : WX} {a b c e l tg it elt : Expr} {es : List Expr} {st : Stmt} {sts body : List Stmt} {p pos tpos : Pos} {fa fb : Env → Sto → Res D} {fr : Env → Sto → Res (List D)} {u t : Env → Sto → Out}
theorem ss_nil : SSs X g hot W [] (fun e s => .nx e s) := pss_nil.imp fun D σ H ⟨m, x, e, s, rl, P⟩ => P m H σ (Step.refl _ _) rl
def seqR (t u : Env → Sto → Out) (e : Env) (s : Sto) : Out := match t e s with
    | .nx e1 s1 => u e1 s1
    | o => o
theorem ss_cons (h1 : SS X g hot W st t) (h2 : SSs X g hot W sts u) : SSs X g hot W (st :: sts) (seqR t u) :=
  (pss_cons h1 h2).imp fun D σ H ⟨m, x, e, s, rl, P⟩ => ⟨m, x, e, s, rl, by
    unfold seqR at P
    cases h : t e s with
    | nx e1 s1 => rw [h] at P; exact fun m' H' σ' st rl' => ⟨m', x, e1, s1, rl', P.step st⟩
    | bk e1 s1 => rw [h] at P; exact P
    | ct e1 s1 => rw [h] at P; exact P
    | rt d s1 => rw [h] at P; exact P
    | exc e1 x1 s1 => rw [h] at P; exact P
    | stuck => rw [h] at P; exact P⟩
theorem ss_pass : SS X g hot W (.Pass pos) (fun e s => .nx e s) := ps_pass.imp fun D σ H ⟨m, x, e, s, rl, P⟩ => P m H σ (Step.refl _ _) rl
theorem ss_break : SS X g hot W (.Break pos) (fun e s => .bk e s) := ps_break.imp fun D σ H ⟨m, x, e, s, rl, P⟩ => P m H σ (Step.refl _ _) rl
theorem ss_cont : SS X g hot W (.Continue pos) (fun e s => .ct e s) := ps_continue.imp fun D σ H ⟨m, x, e, s, rl, P⟩ => P m H σ (Step.refl _ _) rl
theorem ss_retN : SS X g hot W (.Return none pos) (fun _ s => .rt .non s) := ps_retN.imp fun D σ H ⟨m, x, e, s, rl, P⟩ => P m H .non (Step.refl _ _) rl.sr (.inr rfl)
/-- an expression, then what is done with it -/
def thenO (r : Res α) (e : Env) (k : α → Sto → Out) : Out := match r with
    | .ok d s1 => k d s1
    | .exc x s1 => .exc e x s1
    | .stuck => .stuck
theorem thenO_of {α β : Type} {rel : List Addr → List Addr → Hp → α → β → Prop} {f : Env → Sto → Res α} {k : Env → α → Sto → Out} {D : Ends} {σ : L2.St} {H : Hp} {Q : β → Hp → Prop} (h : rdS g hot W (fun e s => thenO (f e s) e (k e)) D σ H)
    (hq : ∀ m x e s a b H, Rl g hot m x H e s σ → rel m x H a b → PstS g hot W m x H D (k e a s) → Q b H) : Rd' g hot W rel f σ H Q := by
  obtain ⟨m, x, e, s, rl, P⟩ := h
  refine ⟨m, x, e, s, rl, ?_⟩
  cases hf : f e s with
  | ok a s1 => simp only [thenO, hf] at P; exact fun m' H' b st sr ra => hq m' x e s1 a b H' (rl.step st sr) ra (P.step st)
  | exc xc s1 => simp only [thenO, hf] at P; exact fun m' H' u d st sr hm xr => P m' H' σ u d st (rl.step st sr) hm xr
  | stuck => simp only [thenO, hf] at P; exact P
theorem ss_ret (ha : SE X g hot W a fa) : SS X g hot W (.Return (some a) pos) (fun e s => thenO (fa e s) e fun d s1 => .rt d s1) :=
  (ps_ret ha).imp fun D σ H h => thenO_of (k := fun _ d s1 => .rt d s1) h fun m x e s d v H rl r P => P m H v (Step.refl _ _) rl.sr r
theorem ss_ex (ha : SE X g hot W a fa) (hs : swapsWith a none pos.line X.env = pure false) : SS X g hot W (.Expr a pos) (fun e s => thenO (fa e s) e fun _ s1 => .nx e s1) :=
  (ps_expr ha hs).imp fun D σ H h => thenO_of (k := fun e _ s1 => .nx e s1) h fun m x e s d v H rl r P => P m H σ (Step.refl _ _) rl
theorem ss_if {ta : Env → Sto → Res Bool} {b1 b2 : List Stmt} (hc : ST X g hot W c ta) (h1 : SSs X g hot W b1 t) (h2 : SSs X g hot W b2 u) : SS X g hot W (.If c b1 b2 pos) (fun e s => thenO (ta e s) e fun k s1 => if k then t e s1 else u e s1) :=
  (ps_if hc h1 h2).imp fun D σ H h => thenO_of (k := fun e k s1 => if k then t e s1 else u e s1) h fun m x e s d v H rl r P => by
    subst r
    cases d with
    | true => exact ⟨m, x, e, s, rl, P⟩
    | false => exact ⟨m, x, e, s, rl, P⟩
end
end Pi

set_option maxRecDepth 100000
/-! Pi, part Q: assignments, loops, raise, try. -/
namespace Pi
open PySem PySem.Spec PyProof.Rows L2

section
variable {X : L2.Cx} {g : Gn} {hot : Option HotI} {W : WX} {a b c e l tg it elt : Expr} {es : List Expr} {st : Stmt} {sts body : List Stmt} {p pos tpos : Pos} {fa fb : Env → Sto → Res D} {fr : Env → Sto → Res (List D)} {u t : Env → Sto → Out}
/-! ### assignments -/
theorem thenG {gf : D → Env → Sto → Res Env} {vs : List Nat} {d : D} {D : Ends} {m x : List Addr} {e : Env} {s : Sto} {σ : L2.St} {H : Hp} (P : PstS g hot W m x H D (thenO (gf d e s) e fun e1 s1 => .nx e1 s1)) (hx : ∀ xc s1, gf d e s ≠ .exc xc s1) :
    PstG g hot vs m x σ H D.nx (gf d e s) := by
  cases h : gf d e s with
  | ok e1 s1 => simp only [thenO, h] at P; exact fun m' H' σ' st rl _ => P m' H' σ' st rl
  | exc xc s1 => exact absurd h (hx xc s1)
  | stuck => simp only [thenO, h] at P; exact P
theorem ss_asg {gf : D → Env → Sto → Res Env} {vs : List Nat} (ha : SE X g hot W a fa) (hg : SG X g hot vs tg gf) (hx : ∀ d e s xc s1, gf d e s ≠ .exc xc s1) (hs : swapsWithSole [tg] a pos.line X.env = pure false) (hw : swappedStores [tg] a X.env = pure none)
    (h1 : (assignEach [tg] X.env).map (·.2) = [assign tg X.env]) : SS X g hot W (.Assign [tg] a pos) (fun e s => thenO (fa e s) e fun d s1 => thenO (gf d e s1) e fun e1 s1 => .nx e1 s1) :=
  (ps_asg ha hg hs hw h1).imp fun D σ H h => thenO_of (k := fun e d s1 => thenO (gf d e s1) e fun e1 s1 => .nx e1 s1) h fun m x e s d v H rl r P => ⟨m, x, e, s, d, rl, r, thenG P (hx d e s)⟩
def setS (i : Nat) (d : D) (e : Env) (s : Sto) : Out := thenO (setV i d e s) e fun e1 s1 => .nx e1 s1
theorem setS_of {i : Nat} {d : D} {D : Ends} {m x : List Addr} {e : Env} {s : Sto} {v : V} {σ : L2.St} {H : Hp} (rl : Rl g hot m x H e s σ) (r : DX g hot m x H d v) (P : PstS g hot W m x H D (setS i d e s)) : D.nx (σ.set i (some v)) H := by
  unfold setS setV at P
  split at P
  · exact P m H _ (Step.refl _ _) ⟨rl.er.set i r, rl.sr⟩
  · exact P.elim
theorem ss_set {i : Nat} {n : Str} {pos' : Pos} (hN : X.N.Nodup) (hi : X.N[i]? = some n) (hx : Loc X.env.scope n) (ha : SE X g hot W a fa) (hs : swapsWith a (some (.Name n pos')) pos.line X.env = pure false) (hf : X.fn n = true ∨ X.env.scope.names.lookup n = some .local) :
    SS X g hot W (.Assign [.Name n pos'] a pos) (fun e s => thenO (fa e s) e fun d s1 => setS i d e s1) :=
  (ps_set hN hi hx ha hs hf).imp fun D σ H h => thenO_of (k := fun e d s1 => setS i d e s1) h fun m x e s d v H rl r P => setS_of rl r P
theorem ss_setLc (hc : X.calm = true) (h0 : hot = none) (hN : X.N.Nodup) {i : Nat} {n : Str} {py spos : Pos} {ifs : List Expr} {scope : Scope} {own : List (Str × Nat)} {fi : Env → Sto → Res (List D × Gd)} {gf : D → Env → Sto → Res Env} {tt : Env → Sto → Res Bool} {fe : Env → Sto → Res D} (mt : Bool) (hgl : ∀ d e s e' s', gf d e s = .ok e' s' → e'.length = e.length)
    (hn : X.N[i]? = some n) (hyl : X.env.scope.names.lookup n = some .local) (hsw : swapsWith (.ListComp elt [⟨tg, it, ifs, 0⟩] scope pos) (some (.Name n py)) spos.line X.env = pure true)
    (hi : SI X g hot W tg it fi) (ok : BlkOk X.N X.env.scope scope own)
    (hg : ∀ (s : Shared) (H : Hp) (C : Addr) (cl : List (Str × Addr)) (fp : List Addr), SG (X.blk s H scope (compEnvC scope cl C X.env) fp) g hot (own.map (·.2)) tg gf) (ht : ∀ (s : Shared) (H : Hp) (C : Addr) (cl : List (Str × Addr)) (fp : List Addr), STs (X.blk s H scope (compEnvC scope cl C X.env) fp) g hot noW ifs tt)
    (he : ∀ (s : Shared) (H : Hp) (C : Addr) (cl : List (Str × Addr)) (fp : List Addr), SE (X.blk s H scope (compEnvC scope cl C X.env) fp) g hot noW elt fe) (hs : ∀ x, foldedSetIterable it X.env x = pure x) :
    SS X g hot W (.Assign [.Name n py] (.ListComp elt [⟨tg, it, ifs, 0⟩] scope pos) spos) (fun e s => thenO ((compR fi gf tt fe (own.map (·.2)) e s).bind (finR mt)) e fun d s1 => setS i d e s1) :=
  (ps_setLc hc hN hn hyl hsw hi ok hg ht he hs).imp fun D σ H h => by
    show tLc _ _ _ _ _ σ H _
    exact comp_of (W := W) h0 mt hgl (thenO_of (k := fun e d s1 => setS i d e s1) h fun m x e s d v H rl r P => setS_of rl r P)
/-- a, b = x, y with plain local names -/
def parS (is : List Nat) (ds : List D) (e : Env) (s1 : Sto) : Out := if ds.length = is.length then .nx ((is.zip ds).foldl (fun e p => e.set p.1 (some p.2)) e) s1 else .stuck
theorem ss_par {i j : Nat} {x y : Str} {px py pt : Pos} {kt k2 : Nat} {pt2 : Pos} (hc : X.calm = true) (hN : X.N.Nodup) (hi : X.N[i]? = some x) (hj : X.N[j]? = some y) (hij : i ≠ j)
    (hx : X.env.scope.names.lookup x = some .local) (hy : X.env.scope.names.lookup y = some .local) (ha : SA X g hot W [a, b] fr)
    (hw : swappedStores [.Tuple [.Name x px, .Name y py] kt pt] (.Tuple [a, b] k2 pt2) X.env = pure (some [x, y]))
    (hs : swapsWithSole [.Tuple [.Name x px, .Name y py] kt pt] (.Tuple [a, b] k2 pt2) pos.line X.env = pure false) :
    SS X g hot W (.Assign [.Tuple [.Name x px, .Name y py] kt pt] (.Tuple [a, b] k2 pt2) pos) (fun e s => thenO (fr e s) e fun ds s1 => parS [i, j] ds e s1) :=
  (ps_par hc hN hi hj hij hx hy ha hw hs).imp fun D σ H h => by
    refine thenO_of (rel := DXs g hot) (k := fun e ds s1 => parS [i, j] ds e s1) h fun m x e s ds vs H rl r P => ?_
    unfold parS at P
    split at P
    · rename_i hl
      obtain ⟨d1, d2, rfl⟩ : ∃ d1 d2, ds = [d1, d2] := by
        match ds, hl with
        | [d1, d2], _ => exact ⟨d1, d2, rfl⟩
      obtain ⟨v1, r1, rfl, h1, v2, r2, rfl, h2, h3⟩ := r
      rw [show r2 = [] from h3]
      exact ⟨v1, v2, rfl, P m H _ (Step.refl _ _) ⟨(rl.er.set i h1).set j h2, rl.sr⟩⟩
    · exact P.elim
theorem ss_par3 {i j l : Nat} {x y z : Str} {px py pz pt : Pos} {kt k2 : Nat} {pt2 : Pos} (hc : X.calm = true) (hN : X.N.Nodup) (hi : X.N[i]? = some x) (hj : X.N[j]? = some y) (hl : X.N[l]? = some z) (hij : i ≠ j) (hil : i ≠ l) (hjl : j ≠ l)
    (hx : X.env.scope.names.lookup x = some .local) (hy : X.env.scope.names.lookup y = some .local) (hz : X.env.scope.names.lookup z = some .local) (ha : SA X g hot W [a, b, c] fr)
    (hw : swappedStores [.Tuple [.Name x px, .Name y py, .Name z pz] kt pt] (.Tuple [a, b, c] k2 pt2) X.env = pure (some [x, y, z]))
    (hs : swapsWithSole [.Tuple [.Name x px, .Name y py, .Name z pz] kt pt] (.Tuple [a, b, c] k2 pt2) pos.line X.env = pure false) :
    SS X g hot W (.Assign [.Tuple [.Name x px, .Name y py, .Name z pz] kt pt] (.Tuple [a, b, c] k2 pt2) pos) (fun e s => thenO (fr e s) e fun ds s1 => parS [i, j, l] ds e s1) :=
  (ps_par3 hc hN hi hj hl hij hil hjl hx hy hz ha hw hs).imp fun D σ H h => by
    refine thenO_of (rel := DXs g hot) (k := fun e ds s1 => parS [i, j, l] ds e s1) h fun m x e s ds vs H rl r P => ?_
    unfold parS at P
    split at P
    · rename_i hl
      obtain ⟨d1, d2, d3, rfl⟩ : ∃ d1 d2 d3, ds = [d1, d2, d3] := by
        match ds, hl with
        | [d1, d2, d3], _ => exact ⟨d1, d2, d3, rfl⟩
      obtain ⟨v1, r1, rfl, h1, v2, r2, rfl, h2, v3, r3, rfl, h3, h4⟩ := r
      rw [show r3 = [] from h4]
      exact ⟨v1, v2, v3, rfl, P m H _ (Step.refl _ _) ⟨((rl.er.set i h1).set j h2).set l h3, rl.sr⟩⟩
    · exact P.elim
/-- name += e -/
def ipD (g : Gn) (hot : Option HotI) : TIp := fun a b H Q => ∃ m x s d1 d2 d, SRel g m x H s ∧ DX g hot m x H d1 a ∧ DX g hot m x H d2 b ∧ augD s d1 d2 = some d ∧ ∀ v, DX g hot m x H d v → Q v H
theorem ip_augD : PIp X .Add (ipD g hot) := by
  intro pins sh σ H x y v u Q I rx ry h
  obtain ⟨m, xx, s, d1, d2, d, sr, h1, h2, e, q⟩ := h
  unfold augD at e
  split at e
  · cases e; cases h1.int; cases h2.int
    exact ip_add pins sh σ H _ _ v u Q I rx ry ⟨_, _, rfl, rfl, q _ (.inr rfl)⟩
  · split at e
    · rename_i hz
      cases e; cases h1.str; cases h2.str
      exact iop_add_str pins sh σ H _ _ v u Q I rx ry ⟨_, _, rfl, rfl, hz, q _ (.inr rfl)⟩
    · cases e
  · cases e
def augR (i : Nat) (fa : Env → Sto → Res D) (e : Env) (s : Sto) : Res D := (getV i e s).bind fun x s0 => (fa e s0).bind fun y s1 => Res.of (augD s1 x y) s1
theorem ss_aug {i : Nat} {n : Str} {pos' : Pos} (hN : X.N.Nodup) (hi : X.N[i]? = some n) (hx : Loc X.env.scope n) (ha : SE X g hot W a fa) (hf : X.fn n = true ∨ X.env.scope.names.lookup n = some .local) :
    SS X g hot W (.AugAssign (.Name n pos') .Add a pos) (fun e s => thenO (augR i fa e s) e fun d s1 => .nx (e.set i (some d)) s1) :=
  (ps_aug hN hi hx ha (ip_augD (g := g) (hot := hot)) hf).imp fun D σ H ⟨m, x, e, s, rl, P⟩ => by
    have P : PstS g hot W m x H D (thenO (augR i fa e s) e fun d s1 => .nx (e.set i (some d)) s1) := P
    cases hd : e[i]? with
    | none => simp only [augR, getV, hd, Res.bind_stuck, thenO] at P; exact P.elim
    | some o =>
      cases o with
      | none => simp only [augR, getV, hd, Res.bind_stuck, thenO] at P; exact P.elim
      | some d =>
        obtain ⟨v, e1, r⟩ := rl.er.at_ i d hd
        refine ⟨v, e1, m, x, e, s, rl, ?_⟩
        simp only [augR, getV, hd, Res.bind_ok] at P
        cases hf : fa e s with
        | ok y s1 =>
          simp only [hf, Res.bind_ok] at P
          intro m' H' w st sr rw'
          cases ha : augD s1 d y with
          | none => rw [ha] at P; exact P.elim
          | some d' =>
            rw [ha] at P
            exact ⟨m', x, s1, d, y, d', sr, r.step st, rw', ha, fun v' dv => P m' H' _ (st) ⟨(rl.er.step st).set i dv, sr⟩⟩
        | exc xc s1 => simp only [hf, Res.bind_exc, thenO] at P; exact fun m' H' u d st sr hm xr => P m' H' σ u d st (rl.step st sr) hm xr
        | stuck => simp only [hf, Res.bind_stuck, thenO] at P; exact P

/-! ### loops -/
theorem for_turn {gd : Gd} {gf : D → Env → Sto → Res Env} {bf : Env → Sto → Out} {vs : List Nat} {ds : List D} {D : Ends} {m1 x : List Addr} {H1 : Hp} {J : It} {e1 : Env} {s1 : Sto} {σ : L2.St} (hgx : ∀ d e s xc s1, gf d e s ≠ .exc xc s1)
    (rl : Rl g hot m1 x H1 e1 s1 σ) (jr : JRel g m1 x H1 (ds, gd) J) (P : PstS g hot W m1 x H1 D (loopFor gd gf bf ds e1 s1)) :
    ∃ Wv : Nat → Nat → L2.St → Hp → Prop, (∃ m, Wv 0 m σ H1) ∧ ∀ i m σ H, Wv i m σ H →
      (J.stop i H ∧ D.nx σ H) ∨ (J.go i H ∧ ∃ N : L2.St → Hp → Prop, (∀ σ' H', N σ' H' → ∃ m', m' < m ∧ Wv (i + 1) m' σ' H') ∧ ∀ xv H', J.yld i H xv H' → rdG g hot vs gf xv σ H' fun σ2 H2 => rdS g hot W bf { D with nx := N, ct := N, bk := D.nx } σ2 H2) := by
  refine ⟨fun i k σ H => k = ds.length - i ∧ i ≤ ds.length ∧ ∃ m' e' s', Rl g hot m' x H e' s' σ ∧ JRel g m' x H (ds, gd) J ∧ PstS g hot W m' x H D (loopFor gd gf bf (ds.drop i) e' s'), ⟨ds.length, by simp, Nat.zero_le _, m1, e1, s1, rl, jr, P⟩, ?_⟩
  rintro i k σ H ⟨rfl, hi, m', e', s', rl', jr', P'⟩
  obtain ⟨deps, hdeps, use⟩ := id jr'
  by_cases hh : held gd s' = true
  · have U := use m' x H s' rl'.sr hh hdeps i
    by_cases hlt : i < ds.length
    · refine .inr ⟨(U.1 ds[i] (List.getElem?_eq_getElem hlt)).1, ?_⟩
      rw [List.drop_eq_getElem_cons hlt] at P'
      unfold loopFor at P'
      rw [if_pos hh] at P'
      refine ⟨fun σ H => i + 1 ≤ ds.length ∧ ∃ m' e' s', Rl g hot m' x H e' s' σ ∧ JRel g m' x H (ds, gd) J ∧ PstS g hot W m' x H D (loopFor gd gf bf (ds.drop (i + 1)) e' s'), fun σ' H' ⟨h1, h2⟩ => ⟨ds.length - (i + 1), by omega, rfl, h1, h2⟩, fun xv H' y => ?_⟩
      obtain ⟨st2, sr2, rd⟩ := (U.1 ds[i] (List.getElem?_eq_getElem hlt)).2 xv H' y
      refine ⟨m', x, e', s', ds[i], rl'.step st2 sr2, .inr rd, ?_⟩
      cases hg : gf ds[i] e' s' with
      | exc xc s => exact absurd hg (hgx _ _ _ xc s)
      | stuck => rw [hg] at P'; exact P'.elim
      | ok e2 s2 =>
        rw [hg] at P'
        simp only at P'
        intro m2 H2 σ2 st3 rl2 hσ
        refine ⟨m2, x, e2, s2, rl2, ?_⟩
        have stA := st2.trans st3
        cases hb : bf e2 s2 with
        | nx e3 s3 => rw [hb] at P'; exact fun m3 H3 σ3 st4 rl3 => ⟨hlt, m3, e3, s3, rl3, jr'.step (stA.trans st4), P'.step (stA.trans st4)⟩
        | ct e3 s3 => rw [hb] at P'; exact fun m3 H3 σ3 st4 rl3 => ⟨hlt, m3, e3, s3, rl3, jr'.step (stA.trans st4), P'.step (stA.trans st4)⟩
        | bk e3 s3 => rw [hb] at P'; exact fun m3 H3 σ3 st4 rl3 => P' m3 H3 σ3 (stA.trans st4) rl3
        | rt d s3 => rw [hb] at P'; exact fun m3 H3 v st4 => P' m3 H3 v (stA.trans st4)
        | exc e3 xc s3 => rw [hb] at P'; exact fun m3 H3 σ3 u d st4 => P' m3 H3 σ3 u d (stA.trans st4)
        | stuck => rw [hb] at P'; exact P'
    · have e : i = ds.length := by omega
      subst e
      rw [List.drop_length] at P'
      unfold loopFor at P'
      rw [if_pos hh] at P'
      exact .inl ⟨U.2 (Nat.le_refl _), P' m' H σ (Step.refl _ _) rl'⟩
  · exfalso
    cases hd : ds.drop i with
    | nil => rw [hd] at P'; unfold loopFor at P'; rw [if_neg hh] at P'; exact P'
    | cons d r => rw [hd] at P'; unfold loopFor at P'; rw [if_neg hh] at P'; exact P'
theorem ss_for (hp : PassesOwn (model X.prog X.w) X.A X.env X.xe) (hc : X.calm = true) {gf : D → Env → Sto → Res Env} {bf : Env → Sto → Out} {fi : Env → Sto → Res (List D × Gd)} {vs : List Nat} (hgx : ∀ d e s xc s1, gf d e s ≠ .exc xc s1)
    (hi : SI X g hot W tg it fi) (hg : SG X g hot vs tg gf) (hb : SSs X g hot W body bf) (hs : ∀ x, foldedSetIterable it X.env x = pure x) :
    SS X g hot W (.For tg it body [] pos) (fun e s => thenO (fi e s) e fun p s1 => loopFor p.2 gf bf p.1 e s1) :=
  (ps_for hp hc hi hg hb hs).imp fun D σ H h => thenO_of (k := fun e p s1 => loopFor p.2 gf bf p.1 e s1) h fun m x e s p J H rl r P => for_turn hgx rl r P
theorem ss_while (hp : PassesOwn (model X.prog X.w) X.A X.env X.xe) {ta : Env → Sto → Res Bool} {bf : Env → Sto → Out} (fuel : Nat) (hc : ST X g hot W c ta) (hb : SSs X g hot W body bf) :
    SS X g hot W (.While c body [] pos) (loopWhile ta bf fuel) :=
  (ps_while hp hc hb).imp fun D σ H ⟨m, x, e, s, rl, P⟩ => by
    refine ⟨fun k σ H => ∃ m x e s, Rl g hot m x H e s σ ∧ PstS g hot W m x H D (loopWhile ta bf k e s), ⟨fuel, m, x, e, s, rl, P⟩, ?_⟩
    rintro k σ H ⟨m, x, e, s, rl, P⟩
    cases k with
    | zero => exact P.elim
    | succ n =>
      refine ⟨m, x, e, s, rl, ?_⟩
      unfold loopWhile at P
      cases ht : ta e s with
      | exc xc s1 => rw [ht] at P; exact fun m' H' u d st sr hm xr => P m' H' σ u d st (rl.step st sr) hm xr
      | stuck => rw [ht] at P; exact P
      | ok k s1 =>
        rw [ht] at P
        intro m1 H1 b st sr eb
        subst eb
        cases k with
        | false => exact P m1 H1 σ st (rl.step st sr)
        | true =>
          simp only at P
          rw [if_pos rfl]
          refine ⟨fun σ H => ∃ m x e s, Rl g hot m x H e s σ ∧ PstS g hot W m x H D (loopWhile ta bf n e s), fun σ' H' h => ⟨n, Nat.lt_succ_self _, h⟩, m1, x, e, s1, rl.step st sr, ?_⟩
          cases hb : bf e s1 with
          | nx e3 s3 => rw [hb] at P; exact fun m3 H3 σ3 st4 rl3 => ⟨m3, x, e3, s3, rl3, P.step (st.trans st4)⟩
          | ct e3 s3 => rw [hb] at P; exact fun m3 H3 σ3 st4 rl3 => ⟨m3, x, e3, s3, rl3, P.step (st.trans st4)⟩
          | bk e3 s3 => rw [hb] at P; exact fun m3 H3 σ3 st4 rl3 => P m3 H3 σ3 (st.trans st4) rl3
          | rt d s3 => rw [hb] at P; exact fun m3 H3 v st4 => P m3 H3 v (st.trans st4)
          | exc e3 xc s3 => rw [hb] at P; exact fun m3 H3 σ3 u d st4 => P m3 H3 σ3 u d (st.trans st4)
          | stuck => rw [hb] at P; exact P
end
end Pi

set_option maxRecDepth 100000
/-! Pi, part R: raise, try. -/
namespace Pi
open PySem PySem.Spec PyProof.Rows L2

section
variable {X : L2.Cx} {g : Gn} {hot : Option HotI} {W : WX} {st b₀ : Stmt} {suite body : List Stmt} {p p2 pos pos' np : Pos} {n : Str} {sub : Str → Str → Option Bool}
/-- what a class must have to be raised, made of a message -/
def RaisesOk (X : L2.Cx) (g : Gn) (c : Str) : Prop := ∃ (C : Addr) (B newId initId : String) (bmB : List Value), ExcBaseFacts B newId initId bmB ∧ PySem.W.excIn X.K C bmB newId = true ∧ g.mg c = some (.ref C) ∧ PySem.W.keepIn X.K (.ref C) = true ∧ Raises X (.ref C)
def raiseS (xc : Exc) (e : Env) (s : Sto) : Out := .exc e xc s
theorem ss_raise {c m : Str} {j : Nat} {xc : Exc} (hc : X.calm = true) (tk : L2N.Takes X W) (hm : X.mg = g.mg) (r : RaisesOk X g c) (hg : Gl X c) (hdb : (c == ("__debug__" : Str)) = false) (h1 : xc.cls = c) (h2 : xc.fs = []) :
    SS X g hot W (.Raise (some (.Call (.Name c p) [.Constant (.str m) j p2] [] pos)) none pos') (raiseS xc) := by
  obtain ⟨C, B, newId, initId, bmB, F, q, gC, kC, r⟩ := r
  refine (L2N.ps_raise hc tk (L2N.pmk_own F q (by rw [hm]; exact gC) kC r hg hdb)).imp fun D σ H ⟨m, x, e, s, rl, P⟩ => ?_
  exact P m H σ (.ref C) none (Step.refl _ _) rl (by rw [h1]; exact gC) (.inl ⟨h2, rfl⟩)

/-! ### try -/
def tryR (sub : Str → Str → Option Bool) (c : Str) (i : Option Nat) (bf : Env → Sto → Out) (hf : Exc → Env → Sto → Out) (e : Env) (s : Sto) : Out := match bf e s with
  | .exc e1 xc s1 => match sub xc.cls c with
    | some true => endSuite i (hf xc (match i with | some i => e1.set i (some .exn) | none => e1) s1)
    | some false => .exc e1 xc s1
    | none => .stuck
  | o => o
theorem DX.unhot {hi : HotI} {m x : List Addr} {H : Hp} {d : D} {v : V} (h : DX g (some hi) m x H d v) (n : d ≠ .exn) : DX g none m x H d v := .inr (h.ne n)
theorem ERel.unhot {hi : HotI} {m x : List Addr} {H : Hp} {e : Env} {σ : L2.St} (h : ERel g (some hi) m x H e σ) (n : noX e = true) : ERel g none m x H e σ :=
  ⟨h.len, fun i d q => let ⟨v, q1, q2⟩ := h.at_ i d q; ⟨v, q1, q2.unhot fun z => by
    subst z
    have := List.all_eq_true.mp n _ (List.mem_of_getElem? q)
    simp at this⟩⟩
def offS (i : Option Nat) (σ : L2.St) : L2.St := match i with
  | some i => σ.set i none
  | none => σ
theorem ERel.cool {hi : HotI} {m x : List Addr} {H : Hp} {e : Env} {σ : L2.St} (h : ERel g (some hi) m x H e σ) (i : Option Nat) (n : noX (offE i e) = true) : ERel g none m x H (offE i e) (offS i σ) := by
  cases i with
  | none => exact h.unhot n
  | some i =>
    refine ⟨by simp [offE, offS, h.len], fun j d q => ?_⟩
    have hx := List.all_eq_true.mp n _ (List.mem_of_getElem? q)
    unfold offE at q
    unfold offS
    by_cases z : i = j
    · subst z
      have hl : i < e.length := by
        have := (List.getElem?_eq_some_iff.mp q).1
        simpa using this
      rw [List.getElem?_set_self hl] at q
      cases q
    · rw [List.getElem?_set_ne z] at q ⊢
      obtain ⟨v, q1, q2⟩ := h.at_ j d q
      exact ⟨v, q1, q2.unhot fun z => by subst z; simp at hx⟩
theorem ERel.heat {hi : HotI} {m x : List Addr} {H : Hp} {e : Env} {σ : L2.St} (h : ERel g none m x H e σ) : ERel g (some hi) m x H e σ :=
  ⟨h.len, fun i d q => let ⟨v, q1, q2⟩ := h.at_ i d q; ⟨v, q1, .inr (q2.rel rfl)⟩⟩
/-- a suite's reading by what it stores -/
def tsOf (g : Gn) (hf : Exc → Env → Sto → Out) : Addr → Value → Option Addr → TS := fun a cls d D σ H => ∃ xc, g.mg xc.cls = some cls ∧ (∃ C, cls = .ref C) ∧ rdS g (some ⟨a, xc, d⟩) noW (hf xc) D σ H
theorem suite_end {hi : HotI} {m x : List Addr} {H : Hp} {D : Ends} {o : Out} (i : Option Nat) (P : PstS g none W m x H D (endSuite i o)) :
    PstS g (some hi) noW m x H { nx := fun σ' H' => D.nx (offS i σ') H', rt := D.rt, bk := fun σ' H' => D.bk (offS i σ') H', ct := fun σ' H' => D.ct (offS i σ') H' } o := by
  cases o with
  | stuck => exact P
  | exc e xc s => exact P.elim
  | rt d s =>
    simp only [endSuite] at P
    by_cases hd : d = .exn
    · rw [if_pos hd] at P; exact P.elim
    · rw [if_neg hd] at P
      exact fun m' H' v st sr r => P m' H' v st sr (r.unhot hd)
  | nx e s =>
    simp only [endSuite] at P
    by_cases hn : noX (offE i e) = true
    · rw [if_pos hn] at P
      exact fun m' H' σ' st rl => P m' H' _ st ⟨rl.er.cool i hn, rl.sr⟩
    · rw [if_neg hn] at P; exact P.elim
  | bk e s =>
    simp only [endSuite] at P
    by_cases hn : noX (offE i e) = true
    · rw [if_pos hn] at P
      exact fun m' H' σ' st rl => P m' H' _ st ⟨rl.er.cool i hn, rl.sr⟩
    · rw [if_neg hn] at P; exact P.elim
  | ct e s =>
    simp only [endSuite] at P
    by_cases hn : noX (offE i e) = true
    · rw [if_pos hn] at P
      exact fun m' H' σ' st rl => P m' H' _ st ⟨rl.er.cool i hn, rl.sr⟩
    · rw [if_neg hn] at P; exact P.elim
theorem tsOf_run {X' : L2.Cx} {a : Addr} {cls : Value} {d : Option Addr} {hf : Exc → Env → Sto → Out} (h : ∀ xc, g.mg xc.cls = some cls → (∃ C, cls = .ref C) → SSs X' g (some ⟨a, xc, d⟩) noW suite (hf xc)) : PSs X' suite (tsOf g hf a cls d) :=
  ⟨fun pins s σ H D I ⟨xc, hm, hC, q⟩ => (h xc hm hC).run pins s σ H D I q⟩
theorem ss_tryAs (hK : X.K = g.K) {c : Str} {cv : Value} {i : Nat} {bf : Env → Sto → Out} {hf : Exc → Env → Sto → Out} (hs : X.stack = X.env :: X.outer) (hfr : X.env.frame = some X.env.locals) (hN : X.N.Nodup) (hi : X.N[i]? = some n) (hln : X.env.kindOf n = some .local)
    (hc : Names X c cv) (hcv : g.mg c = some cv) (hsub : SubOk g sub) (tk : L2N.Takes X W)
    (hb : ∀ (W : WX) (pn : List (Addr × PySem.Obj)) (xe : Value → Shared → Prop), L2N.Takes (X.tr pn xe) W → PassesOwn (model X.prog X.w) X.A X.env xe → SSs (X.tr pn xe) g none W body bf)
    (hsu : ∀ (a : Addr) (oe : PySem.Obj) (cls : Value) (d : Option Addr) (pn : List (Addr × PySem.Obj)) (xc : Exc), g.mg xc.cls = some cls → (∃ C, cls = .ref C) → L2N.Zn cls d oe → (∃ vs, oe.data = .fields vs) → SSs (X.suite a ((a, oe) :: pn)) g (some ⟨a, xc, d⟩) noW (b₀ :: suite) (hf xc)) :
    SS X g none W (.Try body [.ExceptHandler (some (.Name c np)) (some n) (b₀ :: suite) pos'] [] [] pos) (tryR sub c (some i) bf hf) := by
  refine (L2N.ps_try_as (ts := tsOf g hf) (tb := fun W => rdS g none W bf) hs hfr hN hi hln hc tk hb (fun a oe cls d pn hz hfd => tsOf_run fun xc hm hC => hsu a oe cls d pn xc hm hC hz hfd)).imp fun D σ H ⟨m, x, e, s, rl, P⟩ => ⟨m, x, e, s, rl, ?_⟩
  unfold tryR at P
  cases h : bf e s with
  | exc e1 xc s1 =>
    rw [h] at P
    simp only at P
    intro m' H' σ' u dopt st' rl' hm xr
    cases hb : sub xc.cls c with
    | none => rw [hb] at P; exact P.elim
    | some b =>
      rw [hb] at P
      obtain ⟨D0, C0, e1', e2', _, _, hx⟩ := hsub _ _ _ hb
      rw [hm] at e1'; cases e1'
      rw [hcv] at e2'; cases e2'
      refine ⟨b, by rw [hK]; exact hx, fun hb a ha => ?_, fun hb => ?_⟩
      · subst hb
        refine ⟨xc, hm, ⟨_, rfl⟩, m', x, e1.set i (some .exn), s1, ⟨(ERel.heat (hi := ⟨a, xc, dopt⟩) rl'.er).set i (.inl ⟨rfl, _, rfl, rfl, xr⟩), rl'.sr⟩, ?_⟩
        exact suite_end (some i) (P.step st')
      · subst hb
        exact P m' H' σ' _ dopt st' rl' hm xr
  | nx e1 s1 => rw [h] at P; exact P
  | bk e1 s1 => rw [h] at P; exact P
  | ct e1 s1 => rw [h] at P; exact P
  | rt d s1 => rw [h] at P; exact P
  | stuck => rw [h] at P; exact P
theorem ss_tryOnly (hK : X.K = g.K) {c : Str} {cv : Value} {bf : Env → Sto → Out} {hf : Exc → Env → Sto → Out} (hs : X.stack = X.env :: X.outer) (hfr : X.env.frame = some X.env.locals)
    (hc : Names X c cv) (hcv : g.mg c = some cv) (hsub : SubOk g sub) (tk : L2N.Takes X W)
    (hb : ∀ (W : WX) (pn : List (Addr × PySem.Obj)) (xe : Value → Shared → Prop), L2N.Takes (X.tr pn xe) W → PassesOwn (model X.prog X.w) X.A X.env xe → SSs (X.tr pn xe) g none W body bf)
    (hsu : ∀ (a : Addr) (oe : PySem.Obj) (cls : Value) (d : Option Addr) (pn : List (Addr × PySem.Obj)) (xc : Exc), g.mg xc.cls = some cls → (∃ C, cls = .ref C) → L2N.Zn cls d oe → (∃ vs, oe.data = .fields vs) → SSs (X.suite a ((a, oe) :: pn)) g (some ⟨a, xc, d⟩) noW (b₀ :: suite) (hf xc)) :
    SS X g none W (.Try body [.ExceptHandler (some (.Name c np)) none (b₀ :: suite) pos'] [] [] pos) (tryR sub c none bf hf) := by
  refine (L2N.ps_try_many (l := [(cv, tsOf g hf)]) (tb := fun W => rdS g none W bf) hs hfr tk hb (.cons hc (fun a oe cls d pn hz hfd => tsOf_run fun xc hm hC => hsu a oe cls d pn xc hm hC hz hfd) .nil)).imp fun D σ H ⟨m, x, e, s, rl, P⟩ => ⟨m, x, e, s, rl, ?_⟩
  unfold tryR at P
  cases h : bf e s with
  | exc e1 xc s1 =>
    rw [h] at P
    simp only at P
    intro m' H' σ' u dopt st' rl' hm xr
    cases hb : sub xc.cls c with
    | none => rw [hb] at P; exact P.elim
    | some b =>
      rw [hb] at P
      obtain ⟨D0, C0, e1', e2', _, _, hx⟩ := hsub _ _ _ hb
      rw [hm] at e1'; cases e1'
      rw [hcv] at e2'; cases e2'
      refine ⟨b, by rw [hK]; exact hx, fun hb a ha => ?_, fun hb => ?_⟩
      · subst hb
        exact ⟨xc, hm, ⟨_, rfl⟩, m', x, e1, s1, ⟨ERel.heat (hi := ⟨a, xc, dopt⟩) rl'.er, rl'.sr⟩, suite_end none (P.step st')⟩
      · subst hb
        exact P m' H' σ' _ dopt st' rl' hm xr
  | nx e1 s1 => rw [h] at P; exact P
  | bk e1 s1 => rw [h] at P; exact P
  | ct e1 s1 => rw [h] at P; exact P
  | rt d s1 => rw [h] at P; exact P
  | stuck => rw [h] at P; exact P
end
end Pi

set_option maxRecDepth 100000
/-! Pi, part S: what is compiled is walked as the AST tells: expressions. -/
namespace Pi
open PySem PySem.Spec PyProof.Rows L2

/-- what a global name is, in the machine -/
def GlOk (g : Gn) (gl : Str → Option GlK) : Prop := ∀ x k, gl x = some k → match k with
  | .val d => ∃ v u, g.mg x = some u ∧ RelV v u ∧ ∀ m x H, DRel g m x H d v
  | .fn => ∃ a, g.mg x = some (.ref a) ∧ PySem.W.keepIn g.K (.ref a) = true
  | .exc => ∃ a, g.mg x = some (.ref a)
  | .free => g.mg x = none
/-- contexts with the same def tables and room -/
structure Sib (X X' : L2.Cx) : Prop where
  prog : X'.prog = X.prog
  w : X'.w = X.w
  K : X'.K = X.K
  mg : X'.mg = X.mg
  base : X'.base = X.base
  A : X'.A = X.A
theorem Sib.refl (X : L2.Cx) : Sib X X := ⟨rfl, rfl, rfl, rfl, rfl, rfl⟩
def Pas (X : L2.Cx) (W : WX) : Prop := ∀ σ, PassesAt (L2N.CX X.prog X.w) X σ (fun c d H => W c d σ H)
theorem pas_noW {X : L2.Cx} : Pas X noW := fun σ pins H s e s' I c => by
  obtain ⟨_, _, _, _, _, _, _, _, _, _, _, _, z⟩ := c
  exact z.elim
structure CcOk (X : L2.Cx) (g : Gn) (hot : Option HotI) (W : WX) (cc : CC) (cx : Ct) : Prop where
  hK : X.K = g.K
  mg : X.mg = g.mg
  N : X.N = cc.N
  nd : X.N.Nodup
  kind : X.env.scope.kind = .function
  sc : X.env.scope = cc.sc
  un : X.A.units + 64 < cLine
  gu : X.A.guards = some []
  calm : cc.calm = true → X.calm = true ∧ hot = none
  hd : cx.hd = hot.map (·.xc)
  sub : SubOk g cx.sub
  ho : HotOk X g hot
  fn : match cc.blk with
    | none => ∀ n, X.fn n = true
    | some b => ∀ n, b.names.lookup n = some .cell → X.fn n = true
  gl : GlOk g cc.gl
  pas : Pas X W
  call : ∀ (X' : L2.Cx) (W' : WX), Sib X X' → (hot = none ∨ X'.pn = X.pn) → (X.calm = true → X'.calm = true) → Pas X' W' → ∀ f a, cc.gl f = some .fn → g.mg f = some (.ref a) → CallP X' g hot W' a (fun ds s => cx.call cx.hd f ds s)

theorem findIdx_at {N : List Str} {x : Str} {i : Nat} (h : N.findIdx? (fun y => decide (y = x)) = some i) : N[i]? = some x := by
  obtain ⟨h1, h2, _⟩ := List.findIdx?_eq_some_iff_getElem.mp h
  rw [List.getElem?_eq_getElem h1]
  simp at h2
  rw [h2]
section
variable {X : L2.Cx} {g : Gn} {hot : Option HotI} {W : WX} {cc : CC} {cx : Ct} {x : Str} {i : Nat}
theorem CcOk.slot (c : CcOk X g hot W cc cx) (h : cc.slot x = some i) : X.N[i]? = some x ∧ Vis X.env.scope x := by
  unfold CC.slot at h
  rw [c.N, c.sc]
  split at h
  · rename_i e; exact ⟨findIdx_at h, .inl e⟩
  · rename_i e; exact ⟨findIdx_at h, .inr (.inl e)⟩
  · rename_i e; exact ⟨findIdx_at h, .inr (.inr e)⟩
  · cases h
theorem CcOk.store (c : CcOk X g hot W cc cx) (h : cc.store x = some i) : X.N[i]? = some x ∧ Loc X.env.scope x ∧ (X.fn x = true ∨ X.env.scope.names.lookup x = some .local) := by
  unfold CC.store at h
  have hf := c.fn
  rw [c.N, c.sc]
  split at h
  · rename_i e; exact ⟨findIdx_at h, .inl e, .inr e⟩
  · rename_i e
    split at h
    · rename_i eb
      rw [eb] at hf
      exact ⟨findIdx_at h, .inr e, .inl (hf x)⟩
    · rename_i b eb
      rw [eb] at hf
      split at h
      · rename_i e2
        exact ⟨findIdx_at h, .inr e, .inl (hf x e2)⟩
      · cases h
  · cases h
theorem CcOk.glob (c : CcOk X g hot W cc cx) {k : GlK} (h : cc.glob x = some k) : Gl X x ∧ cc.gl x = some k := by
  unfold CC.glob at h
  split at h
  · rename_i e
    simp only [Bool.and_eq_true, decide_eq_true_eq] at e
    exact ⟨by show X.env.scope.names.lookup x = _; rw [c.sc]; exact e.1, h⟩
  · cases h
theorem plain_of (h : plainName x = true) : (x == ("__debug__" : Str)) = false ∧ (x == ("__classdict__" : Str)) = false ∧ x ≠ "__name__" := by
  simpa [plainName, and_assoc] using h
theorem CcOk.plain (h : cc.glob x = some k) : plainName x = true := by
  unfold CC.glob at h
  split at h
  · rename_i e
    simp only [Bool.and_eq_true] at e
    exact e.2
  · cases h
theorem comp_var (cx : Ct) (i : Nat) : evE cx (.v i) = getV i := by funext e s; rw [evE]; rfl
theorem comp_c (cx : Ct) (d : D) : evE cx (.c d) = fun _ s => .ok d s := by funext e s; rw [evE]
theorem comp_g (cx : Ct) (x : Str) (d : D) : evE cx (.g x d) = fun _ s => .ok d s := by funext e s; rw [evE]
theorem pe_gname {pos : Pos} (c : CcOk X g hot W cc cx) {k : GlK} (h : cc.glob x = some k) {v : V} {u : Value} (hu : g.mg x = some u) (r : RelV v u) : PE X (.Name x pos) (tC v) :=
  pe_glob (c.glob h).1 (by rw [c.mg]; exact hu) r (plain_of (CcOk.plain h)).1
theorem name_ok (c : CcOk X g hot W cc cx) {pos : Pos} {a : E} (h : compName cc x = some a) : SE X g hot W (.Name x pos) (evE cx a) := by
  unfold compName at h
  split at h
  · rename_i hp
    obtain ⟨p1, p2, p3⟩ := plain_of hp
    split at h
    · rename_i i hi
      cases h
      obtain ⟨h1, h2⟩ := c.slot hi
      rw [comp_var]
      exact se_var h1 h2 p1 p2
    · split at h
      · rename_i d hg
        cases h
        obtain ⟨v, u, q1, q2, q3⟩ := c.gl _ _ (c.glob hg).2
        rw [comp_g]
        exact se_const (pe_gname c hg q1 q2) q3
      · rename_i hg
        cases h
        obtain ⟨f, q1, q2⟩ := c.gl _ _ (c.glob hg).2
        rw [comp_g]
        exact se_const (v := .ref f) (pe_gname c hg q1 rfl) fun _ _ _ => ⟨f, q1, rfl⟩
      · cases h
  · cases h
theorem ty_ok (c : CcOk X g hot W cc cx) {e : Expr} {d : D} (h : compTy cc e = some d) : noStar e = true ∧ ∃ v, PE X e (tC v) ∧ ∀ m x H, DRel g m x H d v := by
  unfold compTy at h
  split at h
  · rename_i x pos
    refine ⟨rfl, ?_⟩
    split at h
    · rename_i hg
      obtain ⟨t, ht, rfl⟩ := Option.map_eq_some_iff.mp h
      have hm : g.mg x = none := c.gl _ _ (c.glob hg).2
      obtain ⟨p1, p2, p3⟩ := plain_of (CcOk.plain hg)
      refine ⟨.ty t, pe_bltn (u := .type t) (c.glob hg).1 (by rw [c.mg]; exact hm) ?_ rfl p3 p1, fun _ _ _ => rfl⟩
      unfold tyOk at ht
      repeat' split at ht
      all_goals first | (cases ht; rename_i e; subst e; with_unfolding_all rfl) | (cases ht; subst_vars; with_unfolding_all rfl) | cases ht
    · rename_i hg
      cases h
      obtain ⟨C, q1⟩ := c.gl _ _ (c.glob hg).2
      exact ⟨.ref C, pe_gname c hg q1 rfl, fun _ _ _ => ⟨C, q1, rfl⟩⟩
    · cases h
  · cases h
theorem tys_ok (c : CcOk X g hot W cc cx) : ∀ {es : List Expr} {ds : List D}, compTys cc es = some ds → ∃ vs, PA X es (fun _ H Q => Q vs H) ∧ vs.length = ds.length ∧ ∀ m x H, DRels g m x H ds vs
  | [], ds, h => by cases h; exact ⟨[], pa_nil, rfl, fun _ _ _ => rfl⟩
  | e :: es, ds, h => by
    unfold compTys at h
    split at h
    · rename_i a q ha hq
      cases h
      obtain ⟨n1, v, q1, q2⟩ := ty_ok c ha
      obtain ⟨vs, q3, q4, q5⟩ := tys_ok c hq
      exact ⟨v :: vs, pa_cons q1 q3 (star_cons n1), by simp [q4], fun m x H => ⟨v, vs, rfl, q2 m x H, q5 m x H⟩⟩
    · cases h
end
end Pi

set_option maxRecDepth 100000
/-! Pi, part T: targets, iterators, then all expressions. -/
namespace Pi
open PySem PySem.Spec PyProof.Rows L2

section
variable {X : L2.Cx} {g : Gn} {hot : Option HotI} {W : WX} {cc : CC} {cx : Ct}
abbrev FOk (X : L2.Cx) (g : Gn) (hot : Option HotI) (W : WX) (cx : Ct) (f : Expr → Option E) : Prop := ∀ e a, f e = some a → noStar e = true ∧ SE X g hot W e (evE cx a) ∧ ST X g hot W e (fun e s => tst (evE cx a e s))
theorem evL_nil : evL cx .nil = fun _ s => .ok [] s := by funext e s; rw [evL]
theorem evL_cons (a : E) (r : EL) : evL cx (.cons a r) = fun e s => (evE cx a e s).bind fun d s1 => (evL cx r e s1).bind fun ds s2 => .ok (d :: ds) s2 := by funext e s; rw [evL]
theorem compL_ok {f : Expr → Option E} (hf : FOk X g hot W cx f) : ∀ {es : List Expr} {l : EL}, compL f es = some l → es.all noStar = true ∧ SA X g hot W es (evL cx l)
  | [], l, h => by cases h; rw [evL_nil]; exact ⟨rfl, sa_nil⟩
  | e :: es, l, h => by
    unfold compL at h
    split at h
    · rename_i a q ha hq
      cases h
      obtain ⟨n1, s1, _⟩ := hf _ _ ha
      obtain ⟨n2, s2⟩ := compL_ok hf hq
      rw [evL_cons]
      exact ⟨by simp [n1, n2], sa_cons s1 s2 (star_cons n1)⟩
    · cases h

/-! ### targets -/
theorem evG_v (i : Nat) : evG cx (.v i) = setV i := by funext d e s; rw [evG]; rfl
theorem evG_tup (ts : TGL) : evG cx (.tup ts) = fun d e s => match d with
      | .tup ds => evGs cx ts ds e s
      | _ => .stuck := by
  funext d e s
  cases d <;> first | (rw [evG]; done) | rfl | simp [evG]
theorem evG_sub (o i : E) : evG cx (.sub o i) = fun d e s => ((evE cx o e s).bind fun x s1 => (evE cx i e s1).bind fun y s2 => setD x y d e s2).calm := by funext d e s; rw [evG]
theorem evGs_nil : evGs cx .nil = nilG := by
  funext ds e s
  cases ds <;> rfl
theorem evGs_cons (t : TG) (r : TGL) : evGs cx (.cons t r) = consG (evG cx t) (evGs cx r) := by
  funext ds e s
  cases ds <;> rfl
mutual
theorem evG_len (cx : Ct) : ∀ (t : TG) (d : D) (e : Env) (s : Sto) (e' : Env) (s' : Sto), evG cx t d e s = .ok e' s' → e'.length = e.length
  | .v i, d, e, s, e', s', h => by
    rw [evG] at h
    split at h
    · cases h; simp
    · cases h
  | .tup ts, d, e, s, e', s', h => by
    rw [evG_tup] at h
    cases d with
    | tup ds => exact evGs_len cx ts ds e s e' s' h
    | _ => cases h
  | .sub o i, d, e, s, e', s', h => by
    rw [evG] at h
    cases ho : evE cx o e s with
    | ok x s1 =>
      simp only [ho, Res.bind_ok] at h
      cases hi : evE cx i e s1 with
      | ok y s2 =>
        simp only [hi, Res.bind_ok] at h
        unfold setD at h
        repeat' split at h
        all_goals first | (cases h; done) | (simp only [Res.calm_ok] at h; cases h; rfl) | (cases h; rfl)
      | exc _ _ => simp only [hi, Res.bind_exc] at h; cases h
      | stuck => simp only [hi, Res.bind_stuck] at h; cases h
    | exc _ _ => simp only [ho, Res.bind_exc] at h; cases h
    | stuck => simp only [ho, Res.bind_stuck] at h; cases h
  | .attr o f, d, e, s, e', s', h => by rw [evG] at h; cases h
theorem evGs_len (cx : Ct) : ∀ (t : TGL) (d : List D) (e : Env) (s : Sto) (e' : Env) (s' : Sto), evGs cx t d e s = .ok e' s' → e'.length = e.length
  | .nil, d, e, s, e', s', h => by
    rw [evGs_nil] at h
    cases d with
    | nil => cases h; rfl
    | cons _ _ => cases h
  | .cons t r, d, e, s, e', s', h => by
    rw [evGs_cons] at h
    cases d with
    | cons d q =>
      simp only [consG] at h
      cases h1 : evG cx t d e s with
      | ok e1 s1 =>
        simp only [h1, Res.bind_ok] at h
        rw [evGs_len cx r _ e1 s1 e' s' h, evG_len cx t _ e s e1 s1 h1]
      | exc _ _ => simp only [h1, Res.bind_exc] at h; cases h
      | stuck => simp only [h1, Res.bind_stuck] at h; cases h
    | nil => cases h
end
mutual
theorem evG_nx (cx : Ct) : ∀ (t : TG) (d : D) (e : Env) (s : Sto) (xc : Exc) (s' : Sto), evG cx t d e s ≠ .exc xc s'
  | .v i, d, e, s, e', s', h => by
    rw [evG] at h
    split at h <;> cases h
  | .tup ts, d, e, s, e', s', h => by
    rw [evG_tup] at h
    cases d with
    | tup ds => exact evGs_nx cx ts ds e s e' s' h
    | _ => cases h
  | .sub o i, d, e, s, e', s', h => by
    rw [evG] at h
    have : ∀ r : Res Env, r.calm ≠ .exc e' s' := fun r => by cases r <;> (intro z; cases z)
    exact this _ h
  | .attr o f, d, e, s, e', s', h => by rw [evG] at h; cases h
theorem evGs_nx (cx : Ct) : ∀ (t : TGL) (d : List D) (e : Env) (s : Sto) (xc : Exc) (s' : Sto), evGs cx t d e s ≠ .exc xc s'
  | .nil, d, e, s, e', s', h => by
    rw [evGs_nil] at h
    cases d <;> cases h
  | .cons t r, d, e, s, e', s', h => by
    rw [evGs_cons] at h
    cases d with
    | cons d q =>
      simp only [consG] at h
      cases h1 : evG cx t d e s with
      | ok e1 s1 =>
        simp only [h1, Res.bind_ok] at h
        exact evGs_nx cx r _ e1 s1 e' s' h
      | exc _ _ => exact evG_nx cx t _ e s _ _ h1
      | stuck => simp only [h1, Res.bind_stuck] at h; cases h
    | nil => cases h
end
theorem evGs_long (cx : Ct) : ∀ (t : TGL) (k : Nat), (∀ ds : List D, ds.length ≠ k → ∀ e s e' s', evGs cx t ds e s ≠ .ok e' s') → True := fun _ _ _ => trivial
def TGL.length : TGL → Nat
  | .nil => 0
  | .cons _ r => r.length + 1
theorem evGs_count (cx : Ct) : ∀ (t : TGL) (ds : List D) (e : Env) (s : Sto) (e' : Env) (s' : Sto), evGs cx t ds e s = .ok e' s' → ds.length = t.length
  | .nil, d, e, s, e', s', h => by
    rw [evGs_nil] at h
    cases d with
    | nil => rfl
    | cons _ _ => cases h
  | .cons t r, d, e, s, e', s', h => by
    rw [evGs_cons] at h
    cases d with
    | nil => cases h
    | cons d q =>
      simp only [consG] at h
      cases h1 : evG cx t d e s with
      | ok e1 s1 =>
        simp only [h1, Res.bind_ok] at h
        simp [TGL.length, evGs_count cx r _ e1 s1 e' s' h]
      | exc _ _ => simp only [h1, Res.bind_exc] at h; cases h
      | stuck => simp only [h1, Res.bind_stuck] at h; cases h
theorem compGs_length {f : Expr → Option E} {vs : List Nat} : ∀ {n : Nat} {es : List Expr} {l : TGL}, compGs f cc vs n es = some l → l.length = es.length
  | 0, _, _, h => by simp [compGs] at h
  | n + 1, [], l, h => by simp [compGs] at h; subst h; rfl
  | n + 1, e :: es, l, h => by
    simp only [compGs] at h
    split at h
    · rename_i a q ha hq
      cases h
      simp [TGL.length, compGs_length hq]
    · cases h
theorem assignEach_cons {e : Expr} {es : List Expr} {env : PySem.Env} (h : noStar e = true) : assignEach (e :: es) env = (false, assign e env) :: assignEach es env := by
  cases e <;> first | rfl | cases h
theorem compG_nostar {f : Expr → Option E} {vs : List Nat} {n : Nat} {e : Expr} {t : TG} (h : compG f cc vs n e = some t) : noStar e = true := by
  cases n with
  | zero => simp [compG] at h
  | succ n =>
    cases e <;> first | rfl | (simp [compG] at h)
theorem compGs_nostar {f : Expr → Option E} {vs : List Nat} : ∀ {n : Nat} {es : List Expr} {l : TGL}, compGs f cc vs n es = some l → es.all noStar = true
  | 0, _, _, h => by simp [compGs] at h
  | n + 1, [], l, h => rfl
  | n + 1, e :: es, l, h => by
    simp only [compGs] at h
    split at h
    · rename_i a q ha hq
      simp [compG_nostar ha, compGs_nostar hq]
    · cases h
theorem assignEach_plain : ∀ {es : List Expr} {env : PySem.Env}, es.all noStar = true → (assignEach es env).findIdx? (·.1) = none ∧ (assignEach es env).length = es.length
  | [], _, _ => ⟨rfl, rfl⟩
  | e :: es, env, h => by
    simp only [List.all_cons, Bool.and_eq_true] at h
    obtain ⟨h1, h2⟩ := assignEach_plain (env := env) h.2
    rw [assignEach_cons h.1]
    exact ⟨by rw [List.findIdx?_cons]; simp [h1], by simp [h2]⟩
/-- o[i] = v -/
theorem sg_sub {o i : Expr} {pos : Pos} {fo fi : Env → Sto → Res D} {vs : List Nat} (h0 : hot = none) (ho : SE X g hot W o fo) (hi : SE X g hot W i fi) (hn : notSlice i = true) :
    SG X g hot vs (.Subscript o i pos) (fun d e s => ((fo e s).bind fun x s1 => (fi e s1).bind fun y s2 => setD x y d e s2).calm) := by
  refine (pg_sub ho hi set_list (by intro v; cases i <;> first | rfl | cases hn)).imp fun v σ H Q ⟨m, x, e, s, d, rl, dx, P⟩ => ⟨m, x, e, s, rl, ?_⟩
  cases hfo : fo e s with
  | exc _ _ => simp only [hfo, Res.bind_exc] at P; exact P.elim
  | stuck => simp only [hfo, Res.bind_stuck] at P; exact P.elim
  | ok ov s1 =>
    simp only [hfo, Res.bind_ok] at P
    intro m1 H1 b1 st1 sr1 r1
    refine ⟨m1, x, e, s1, rl.step st1 sr1, ?_⟩
    cases hfi : fi e s1 with
    | exc _ _ => simp only [hfi, Res.bind_exc] at P; exact P.elim
    | stuck => simp only [hfi, Res.bind_stuck] at P; exact P.elim
    | ok iv s2 =>
      simp only [hfi, Res.bind_ok] at P
      intro m2 H2 b2 st2 sr2 r2
      replace r1 := r1.step st2
      replace dx := dx.step (st1.trans st2)
      unfold setD at P
      split at P
      · rename_i n k
        split at P
        · rename_i xs hxs
          split at P
          · rename_i j hj
            by_cases hd : d = .exn
            · rw [if_pos hd] at P; exact P.elim
            · rw [if_neg hd] at P
              obtain ⟨a, hm, rfl⟩ := r1.ne (by simp)
              cases r2.int
              obtain ⟨ws, hH, hw⟩ := sr2.lst_at hm hxs
              obtain ⟨q1, q2⟩ := sr2.put hm (hw.set j (dx.ne hd))
              exact ⟨a, ws, k, j, rfl, rfl, hH, by rw [← hw.length]; exact hj, P m2 _ σ ((st1.trans st2).trans q1) ⟨rl.er.step ((st1.trans st2).trans q1), q2⟩ fun _ _ => rfl⟩
          · exact P.elim
        · exact P.elim
      · exact P.elim
mutual
theorem compG_ok (c : CcOk X g hot W cc cx) {f : Expr → Option E} (hf : FOk X g hot W cx f) {vs : List Nat} : ∀ (n : Nat) {e : Expr} {t : TG}, compG f cc vs n e = some t → SG X g hot vs e (evG cx t)
  | 0, _, _, h => by simp [compG] at h
  | n + 1, e, t, h => by
    cases e with
    | Name x pos =>
      simp only [compG] at h
      split at h
      · rename_i hp
        split at h
        · rename_i i hi
          split at h
          · rename_i hv
            cases h
            obtain ⟨h1, h2, h3⟩ := c.store hi
            rw [evG_v]
            exact sg_name c.nd h1 h2 h3 hv
          · cases h
        · cases h
      · cases h
    | Tuple es kk pos =>
      simp only [compG] at h
      split at h
      · rename_i hc
        split at h
        · rename_i ts hts
          cases h
          obtain ⟨q1, q2⟩ := c.calm hc
          obtain ⟨a1, a2⟩ := assignEach_plain (env := X.env) (compGs_nostar hts)
          rw [evG_tup]
          refine sg_tup c.hK q1 (compGs_ok c hf n hts) a1 a2 fun ds e s hl e' s' z => hl ?_
          rw [evGs_count cx ts ds e s e' s' z, compGs_length hts]
        · cases h
      · cases h
    | Subscript o i pos =>
      simp only [compG] at h
      split at h
      · rename_i hc
        simp only [Bool.and_eq_true] at hc
        split at h
        · rename_i a b ha hb
          cases h
          rw [evG_sub]
          exact sg_sub (W := W) (c.calm hc.2).2 (hf _ _ ha).2.1 (hf _ _ hb).2.1 hc.1
        · cases h
      · cases h
    | _ => simp [compG] at h
theorem compGs_ok (c : CcOk X g hot W cc cx) {f : Expr → Option E} (hf : FOk X g hot W cx f) {vs : List Nat} : ∀ (n : Nat) {es : List Expr} {t : TGL}, compGs f cc vs n es = some t → SGs X g hot vs es (evGs cx t)
  | 0, _, _, h => by simp [compGs] at h
  | n + 1, [], l, h => by simp [compGs] at h; subst h; rw [evGs_nil]; exact sgs_nil
  | n + 1, e :: es, l, h => by
    simp only [compGs] at h
    split at h
    · rename_i a q ha hq
      cases h
      rw [evGs_cons]
      exact sgs_cons (compG_ok c hf n ha) (compGs_ok c hf n hq) (by rw [assignEach_cons (compG_nostar ha)]; rfl)
    · cases h
end
/-! ### what is walked -/
theorem evI_ex (a : E) : evI cx (.ex a) = fun e s => (evE cx a e s).bind fun d s1 => match itemsOf s1 d with
    | some ds => .ok (ds, guardOf s1 d) s1
    | none => .stuck := by funext e s; first | (rw [evI]; done) | (rw [evI]; rfl)
theorem evI_r1 (a : E) : evI cx (.range (.cons a .nil)) = fun e s => (evE cx a e s).bind fun d s1 => rangeK [d] s1 := by
  funext e s; rw [evI, evL_cons, evL_nil]; simp only [Res.bind_assoc, Res.bind_ok]; rfl
theorem evI_r2 (a b : E) : evI cx (.range (.cons a (.cons b .nil))) = fun e s => (evE cx a e s).bind fun d s1 => (evE cx b e s1).bind fun d2 s2 => rangeK [d, d2] s2 := by
  funext e s; rw [evI, evL_cons, evL_cons, evL_nil]; simp only [Res.bind_assoc, Res.bind_ok]; rfl
theorem folded_of {it : Expr} {env : PySem.Env} (h : notSet it = true) (x : Value) : foldedSetIterable it env x = pure x := by
  unfold foldedSetIterable
  cases it <;> first | rfl | cases h
theorem compI_ok (c : CcOk X g hot W cc cx) (h0 : hot = none) {f : Expr → Option E} (hf : FOk X g hot W cx f) {tg it : Expr} {i : IT} (h : compI f cc tg it = some i) : SI X g hot W tg it (evI cx i) ∧ ∀ x, foldedSetIterable it X.env x = pure x := by
  have ex : ∀ {y}, f it = some y → SI X g hot W tg it (evI cx (.ex y)) := fun {y} hy => by rw [evI_ex]; exact si_ex c.hK h0 (hf _ _ hy).2.1
  unfold compI at h
  split at h
  · rename_i x p es pos
    refine ⟨?_, fun x => folded_of rfl x⟩
    split at h
    · rename_i hx
      subst hx
      split at h
      · rename_i a hg
        split at h
        · rename_i y hy
          cases h
          obtain ⟨q1, q2, _⟩ := hf _ _ hy
          rw [evI_r1]
          exact si_range1 q1 (c.glob hg).1 (by rw [c.mg]; exact c.gl _ _ (c.glob hg).2) q2
        · cases h
      · rename_i a b hg
        split at h
        · rename_i y z hy hz
          cases h
          obtain ⟨q1, q2, _⟩ := hf _ _ hy
          obtain ⟨q3, q4, _⟩ := hf _ _ hz
          rw [evI_r2]
          exact si_range2 q1 q3 (c.glob hg).1 (by rw [c.mg]; exact c.gl _ _ (c.glob hg).2) q2 q4
        · cases h
      · cases h
    · split at h
      · rename_i y hy
        cases h
        exact ex hy
      · cases h
  · split at h
    · rename_i hn
      split at h
      · rename_i y hy
        cases h
        exact ⟨ex hy, fun x => folded_of hn x⟩
      · cases h
    · cases h
theorem compIf_ok {f : Expr → Option E} (hf : FOk X g hot W cx f) {cs : List Expr} {b : EO} (h : compIf f cs = some b) : STs X g hot W cs (evT cx b) := by
  unfold compIf at h
  split at h
  · cases h
    have : evT cx .none = fun _ s => .ok true s := by funext e s; rw [evT]
    rw [this]; exact sts_nil
  · split at h
    · rename_i y hy
      cases h
      have : evT cx (.some y) = fun e s => tst (evE cx y e s) := by funext e s; rw [evT]
      rw [this]; exact sts_one (hf _ _ hy).2.2
    · cases h
  · cases h
theorem evO_none : evO cx .none = fun _ s => .ok none s := by funext e s; rw [evO]
theorem evO_some (a : E) : evO cx (.some a) = fun e s => (evE cx a e s).bind fun d s1 => match d with
    | .int i => .ok (some i) s1
    | _ => .stuck := by funext e s; first | (rw [evO]; done) | (rw [evO]; rfl)
theorem compO_ok {f : Expr → Option E} (hf : FOk X g hot W cx f) {lo : Option Expr} {b : EO} (h : compO f lo = some b) : SO X g hot W lo (evO cx b) := by
  unfold compO at h
  split at h
  · cases h
    rw [evO_none]
    exact ⟨fun pins s σ H Q I ⟨m, x, e, st, rl, P⟩ => po_none.run pins s σ H Q I (P.ok rl.sr rfl)⟩
  · split at h
    · rename_i y hy
      cases h
      rw [evO_some]
      refine ⟨fun pins s σ H Q I ⟨m, x, e, st, rl, P⟩ => (po_some (hf _ _ hy).2.1).run pins s σ H Q I ?_⟩
      refine ⟨m, x, e, st, rl, (Pst.bind P).imp fun v H1 ⟨d, s1, m1, st1, sr1, r1, P1⟩ => ?_⟩
      cases d with
      | int i => cases r1.int; exact ⟨i, rfl, P1.ok sr1 rfl⟩
      | _ => exact P1.elim
    · cases h
end
end Pi

set_option maxRecDepth 100000
/-! Pi, part U: every compiled expression. -/
namespace Pi
open PySem PySem.Spec PyProof.Rows L2

section
variable {X : L2.Cx} {g : Gn} {hot : Option HotI} {W : WX} {cc : CC} {cx : Ct}
def EOk (X : L2.Cx) (g : Gn) (hot : Option HotI) (W : WX) (cx : Ct) (e : Expr) (a : E) : Prop :=
  noStar e = true ∧ SE X g hot W e (evE cx a) ∧ ST X g hot W e (fun e s => tst (evE cx a e s)) ∧ (∀ op es pos, e = .BoolOp op es pos → SW X g hot W e (fun e s => tst (evE cx a e s))) ∧
    (newish e = true → SE X g hot W e (fun e s => (evE cx a e s).bind (finR true)))
theorem EOk.plain {e : Expr} {a : E} (hK : X.K = g.K) (h1 : noStar e = true) (h2 : SE X g hot W e (evE cx a)) (h3 : ∀ whole, isTrue e X.env whole = (do let v ← whole; standAt e.pos; holding [v] (truthy v))) (h4 : ∀ op es pos, e ≠ .BoolOp op es pos)
    (h5 : newish e = true → SE X g hot W e (fun e s => (evE cx a e s).bind (finR true))) : EOk X g hot W cx e a :=
  ⟨h1, h2, st_truth hK h2 h3, fun op es pos z => absurd z (h4 op es pos), h5⟩
theorem ev_bin (op : Operator) (a b : E) : evE cx (.bin op a b) = fun e s => (evE cx a e s).bind fun x s1 => (evE cx b e s1).bind fun y s2 => Res.of (binD op s2 x y) s2 := by funext e s; rw [evE]
theorem ev_neg (a : E) : evE cx (.neg a) = fun e s => (evE cx a e s).bind fun x s1 => Res.of (negD x) s1 := by funext e s; rw [evE]
theorem ev_not (a : E) : evE cx (.not a) = fun e s => (tst (evE cx a e s)).bind fun k s1 => .ok (.bl (!k)) s1 := by funext e s; rw [evE]
theorem ev_cmp (op : CmpOp) (a b : E) : evE cx (.cmp op a b) = fun e s => (evE cx a e s).bind fun x s1 => (evE cx b e s1).bind fun y s2 => Res.of ((cmpD op s2 x y).map .bl) s2 := by funext e s; rw [evE]
theorem ev_chain (o1 o2 : CmpOp) (a b c : E) : evE cx (.chain o1 o2 a b c) = chainR (evE cx a) (evE cx b) (evE cx c) o1 o2 := by funext e s; rw [evE]; rfl
theorem ev_and (a b : E) : evE cx (.and a b) = andR (evE cx a) (evE cx b) := by funext e s; rw [evE]; rfl
theorem ev_or (a b : E) : evE cx (.or a b) = orR (evE cx a) (evE cx b) := by funext e s; rw [evE]; rfl
theorem ev_ite (t a b : E) : evE cx (.ite t a b) = fun e s => (tst (evE cx t e s)).bind fun k s1 => if k then evE cx a e s1 else evE cx b e s1 := by funext e s; rw [evE]
theorem ev_idx (a b : E) : evE cx (.idx a b) = fun e s => (evE cx a e s).bind fun x s1 => (evE cx b e s1).bind fun y s2 => Res.of (idxD s2 x y) s2 := by funext e s; rw [evE]
theorem ev_cut (a : E) (l h : EO) : evE cx (.cut a l h) = fun e s => (evE cx a e s).bind fun x s1 => (evO cx l e s1).bind fun l s2 => (evO cx h e s2).bind fun h s3 => Res.of (cutAt s3 x l h) s3 := by funext e s; rw [evE]
theorem ev_tup (es : EL) : evE cx (.tup es) = fun e s => (evL cx es e s).bind fun ds s1 => if calmL cx.hd ds then .ok (.tup ds) s1 else .stuck := by funext e s; rw [evE]
theorem ev_lst (es : EL) : evE cx (.lst es) = fun e s => (evL cx es e s).bind fun ds s1 => if calmL cx.hd ds then .ok (.lst ds) s1 else .stuck := by funext e s; rw [evE]
theorem ev_call (x : Str) (es : EL) : evE cx (.call x es) = fun e s => (evL cx es e s).bind fun ds s1 => cx.call cx.hd x ds s1 := by funext e s; rw [evE]
theorem ev_bi (x : Bi) (es : EL) : evE cx (.bi x es) = fun e s => (evL cx es e s).bind fun ds s1 => Res.of (biD x s1 ds) s1 := by funext e s; rw [evE]
theorem ev_isi (c : CcOk X g hot W cc cx) (a : E) (cs : List D) : evE cx (.isi a cs) = isiR (evE cx a) hot cx.sub cs := by funext e s; rw [evE, c.hd]; rfl
theorem ev_meth (m : Me) (o : E) (es : EL) : evE cx (.meth m o es) = methR m (evE cx o) (evL cx es) := by funext e s; rw [evE]; rfl
theorem ev_mat (a : E) : evE cx (.mat a) = fun e s => (evE cx a e s).bind (finR true) := by funext e s; rw [evE]; rfl
theorem ev_comp (vs : List Nat) (a : E) (i : IT) (t : TG) (b : EO) : evE cx (.comp vs a i (.one t b)) = compR (evI cx i) (fun d e s => evG cx t d e s) (evT cx b) (evE cx a) vs := by
  funext e s; rw [evE]; unfold compR
  congr 2
theorem biOf_name {x : Str} {b : Bi} (h : biOf x = some b) : b.name = x := by
  have := List.find?_some h
  simpa using this
theorem meOf_name {x : Str} {b : Me} (h : meOf x = some b) : b.name = x := by
  have := List.find?_some h
  simpa using this
theorem st_if {c a b : Expr} {pos : Pos} {tc ta tb : Env → Sto → Res Bool} (hc : ST X g hot W c tc) (ha : ST X g hot W a ta) (hb : ST X g hot W b tb) : ST X g hot W (.IfExp c a b pos) (fun e s => (tc e s).bind fun k s1 => if k then ta e s1 else tb e s1) := by
  refine ⟨fun pins sh σ H Q I ⟨m, x, e, s, rl, P⟩ => ?_⟩
  refine PyProof.Rows.isTrue_IfExp (thn (hc.run pins sh σ H (fun k H1 => ∃ s1 m1, Step m H m1 H1 ∧ SRel g m1 x H1 s1 ∧ Pst g W m1 x σ H1 (fun _ _ _ a b => a = b) Q (if k then ta e s1 else tb e s1)) I ⟨m, x, e, s, rl, (Pst.bind P).imp fun k H1 ⟨k', s1, m1, st1, sr1, r1, P1⟩ => by
    subst r1
    exact ⟨s1, m1, st1, sr1, P1⟩⟩) fun k s1 ⟨H1, I1, st, m1, st1, sr1, P1⟩ => ?_)
  cases k with
  | true => exact ha.run pins s1 σ H1 Q I1 ⟨m1, x, e, st, rl.step st1 sr1, P1⟩
  | false => exact hb.run pins s1 σ H1 Q I1 ⟨m1, x, e, st, rl.step st1 sr1, P1⟩
theorem CcOk.blk (c : CcOk X g hot W cc cx) (h0 : hot = none) (scope : Scope) (ok : BlkOk cc.N cc.sc scope (ownOf cc.N scope)) (s : Shared) (H : Hp) (C : Addr) (cl : List (Str × Addr)) (fp : List Addr) :
    CcOk (X.blk s H scope (compEnvC scope cl C X.env) fp) g hot noW (cc.inner scope) cx where
  hK := c.hK
  mg := c.mg
  N := c.N
  nd := c.nd
  kind := by show (compEnvC scope cl C X.env).scope.kind = _; first | exact ok.kind | rfl
  sc := by show (compEnvC scope cl C X.env).scope = relS scope cc.sc; rw [← c.sc]; rfl
  un := c.un
  gu := c.gu
  calm := c.calm
  hd := c.hd
  sub := c.sub
  ho := fun p hp => by rw [h0] at hp; cases hp
  fn := fun n hn => by
    show (scope.names.lookup n == some .cell) = true
    rw [hn]; rfl
  gl := c.gl
  pas := pas_noW
  call := fun X' W' sb hp hc ps f a h1 h2 => c.call X' W' ⟨sb.prog, sb.w, sb.K, sb.mg, sb.base, sb.A⟩ (.inl h0) hc ps f a h1 h2
end
theorem compE_ok : ∀ (n : Nat) {X : L2.Cx} {g : Gn} {hot : Option HotI} {W : WX} {cc : CC} {cx : Ct} {e : Expr} {a : E}, CcOk X g hot W cc cx → compE n cc e = some a → EOk X g hot W cx e a
  | 0, _, _, _, _, _, _, _, _, _, h => by simp [compE] at h
  | n + 1, X, g, hot, W, cc, cx, e, a, c, h => by
    have ih := fun {e : Expr} {a : E} (h : compE n cc e = some a) => compE_ok n c h
    have fok : FOk X g hot W cx (compE n cc) := fun e a h => let ⟨h1, h2, h3, _⟩ := ih h; ⟨h1, h2, h3⟩
    have hK := c.hK
    have noB : ∀ {e : Expr} {a : E}, noStar e = true → SE X g hot W e (evE cx a) → (∀ whole, isTrue e X.env whole = (do let v ← whole; standAt e.pos; holding [v] (truthy v))) → (∀ op es pos, e ≠ .BoolOp op es pos) → newish e = false → EOk X g hot W cx e a := fun h1 h2 h3 h4 h5 =>
      .plain hK h1 h2 h3 h4 fun z => by rw [h5] at z; cases z
    cases e with
    | Constant k _ _ =>
      have q : ∀ {d : D} {v : V} {e : Expr}, PE X e (tC v) → (∀ m x H, DRel g m x H d v) → SE X g hot W e (evE cx (.c d)) := fun h1 h2 => by rw [comp_c]; exact se_const h1 h2
      cases k <;> (simp only [compE] at h) <;> first | (cases h; done) | skip
      · cases h; exact noB rfl (q pe_non fun _ _ _ => rfl) (fun _ => rfl) (fun _ _ _ z => (nomatch z)) rfl
      · cases h; exact noB rfl (q pe_bl fun _ _ _ => rfl) (fun _ => rfl) (fun _ _ _ z => (nomatch z)) rfl
      · cases h; exact noB rfl (q pe_int fun _ _ _ => rfl) (fun _ => rfl) (fun _ _ _ z => (nomatch z)) rfl
      · cases h; exact noB rfl (q pe_str fun _ _ _ => rfl) (fun _ => rfl) (fun _ _ _ z => (nomatch z)) rfl
    | Name x pos =>
      simp only [compE] at h
      exact noB rfl (name_ok c (pos := pos) h) (fun _ => rfl) (fun _ _ _ z => (nomatch z)) rfl
    | BinOp l op r pos =>
      simp only [compE] at h
      split at h
      · split at h
        · rename_i x y hx hy
          cases h
          have q := fun mt => se_bin (pos := pos) hK op mt (ih hx).2.1 (ih hy).2.1
          refine .plain hK rfl ?_ (fun _ => rfl) (fun _ _ _ z => (nomatch z)) fun _ => ?_
          · rw [ev_bin]; have := q false; simpa only [fin_false] using this
          · rw [ev_bin]; exact q true
        · cases h
      · cases h
    | UnaryOp op l pos =>
      cases op <;> (simp only [compE] at h) <;> first | (cases h; done) | skip
      · split at h
        · rename_i x hx
          cases h
          refine ⟨rfl, ?_, ?_, fun op es pos z => (nomatch z), fun z => by cases z⟩
          · rw [ev_not]; exact se_not hK (ih hx).2.1
          · have q := st_not (pos := pos) (ih hx).2.2.1
            have e : (fun e s => tst (evE cx (.not x) e s)) = fun e s => (tst (evE cx x e s)).bind fun k s1 => .ok (!k) s1 := by
              funext e s
              rw [ev_not]
              show ((tst (evE cx x e s)).bind _).bind _ = _
              rw [Res.bind_assoc]
              rfl
            rw [e]; exact q
        · cases h
      · split at h
        · rename_i x hx
          cases h
          exact noB rfl (by rw [ev_neg]; exact se_neg (ih hx).2.1) (fun _ => rfl) (fun _ _ _ z => (nomatch z)) rfl
        · cases h
    | BoolOp op es pos =>
      have both : ∀ {es : List Expr} {x : E}, SE X g hot W (.BoolOp op es pos) (evE cx x) → SW X g hot W (.BoolOp op es pos) (fun e s => tst (evE cx x e s)) → EOk X g hot W cx (.BoolOp op es pos) x := fun h1 h2 => ⟨rfl, h1, h2.pt, fun op' es' pos' z => by cases z; exact h2, fun z => by cases z⟩
      cases es with
      | nil => cases op <;> simp [compE] at h
      | cons l r =>
        cases r with
        | nil =>
          cases op <;> simp only [compE] at h
          · obtain ⟨_, h1, h2, _⟩ := ih h
            exact both (pe_one h1) (pw_and1 h2)
          · obtain ⟨_, h1, h2, _⟩ := ih h
            exact both (pe_one h1) (pw_or1 h2)
        | cons b r =>
          cases op <;> simp only [compE] at h
          · split at h
            · rename_i x y hx hy
              cases h
              obtain ⟨_, h1, h2, _⟩ := ih hx
              obtain ⟨_, h3, _, h4, _⟩ := ih hy
              refine both (by rw [ev_and]; exact se_and hK h1 h3) ?_
              have q := sw_and h2 (h4 _ _ _ rfl)
              have e : (fun e s => tst (evE cx (.and x y) e s)) = fun e s => (tst (evE cx x e s)).bind fun k s1 => if k then tst (evE cx y e s1) else .ok false s1 := by
                funext e s; rw [ev_and, tst_and]
              rw [e]; exact q
            · cases h
          · split at h
            · rename_i x y hx hy
              cases h
              obtain ⟨_, h1, h2, _⟩ := ih hx
              obtain ⟨_, h3, _, h4, _⟩ := ih hy
              refine both (by rw [ev_or]; exact se_or hK h1 h3) ?_
              have q := sw_or h2 (h4 _ _ _ rfl)
              have e : (fun e s => tst (evE cx (.or x y) e s)) = fun e s => (tst (evE cx x e s)).bind fun k s1 => if k then .ok true s1 else tst (evE cx y e s1) := by
                funext e s; rw [ev_or, tst_or]
              rw [e]; exact q
            · cases h
    | Compare l ops bs pos =>
      match ops, bs, h with
      | [op], [b], h =>
        simp only [compE] at h
        split at h
        · rename_i hc
          split at h
          · rename_i x y hx hy
            cases h
            refine ⟨rfl, ?_, ?_, fun op es pos z => (nomatch z), fun z => by cases z⟩
            · rw [ev_cmp]; exact se_cmp hK c.un op hc.1 (ih hx).2.1 (ih hy).2.1
            · have e : (fun e s => tst (evE cx (.cmp op x y) e s)) = fun e s => tst ((evE cx x e s).bind fun a s1 => (evE cx y e s1).bind fun b s2 => Res.of ((cmpD op s2 a b).map .bl) s2) := by
                funext e s; rw [ev_cmp]
              rw [e]; exact st_cmp hK c.un op hc.1 (ih hx).2.1 (ih hy).2.1
          · cases h
        · cases h
      | [o1, o2], [b, b2], h =>
        simp only [compE] at h
        split at h
        · rename_i hc
          split at h
          · rename_i x y z hx hy hz
            cases h
            refine ⟨rfl, ?_, ?_, fun op es pos z => (nomatch z), fun z => by cases z⟩
            · rw [ev_chain]; exact se_chain hK c.un o1 o2 hc.1 (ih hx).2.1 (ih hy).2.1 (ih hz).2.1
            · have e : (fun e s => tst (evE cx (.chain o1 o2 x y z) e s)) = fun e s => tst (chainR (evE cx x) (evE cx y) (evE cx z) o1 o2 e s) := by
                funext e s; rw [ev_chain]
              rw [e]; exact st_chain hK c.un o1 o2 hc.1 (ih hx).2.1 (ih hy).2.1 (ih hz).2.1
          · cases h
        · cases h
      | [], _, h => simp [compE] at h
      | [_], [], h => simp [compE] at h
      | [_], _ :: _ :: _, h => simp [compE] at h
      | [_, _], [], h => simp [compE] at h
      | [_, _], [_], h => simp [compE] at h
      | [_, _], _ :: _ :: _ :: _, h => simp [compE] at h
      | _ :: _ :: _ :: _, _, h => simp [compE] at h
    | IfExp t l r pos =>
      simp only [compE] at h
      split at h
      · rename_i x y z hx hy hz
        cases h
        refine ⟨rfl, by rw [ev_ite]; exact se_if (ih hx).2.2.1 (ih hy).2.1 (ih hz).2.1, ?_, fun op es pos z => (nomatch z), fun z => by cases z⟩
        have q := st_if (pos := pos) (ih hx).2.2.1 (ih hy).2.2.1 (ih hz).2.2.1
        have e : (fun e s => tst (evE cx (.ite x y z) e s)) = fun e s => (tst (evE cx x e s)).bind fun k s1 => if k then tst (evE cx y e s1) else tst (evE cx z e s1) := by
          funext e s
          rw [ev_ite]
          show ((tst (evE cx x e s)).bind _).bind _ = _
          rw [Res.bind_assoc]
          congr 1; funext k s1
          cases k <;> rfl
        rw [e]; exact q
      · cases h
    | Tuple es kk pos =>
      simp only [compE] at h
      split at h
      · rename_i l hl
        cases h
        exact noB rfl (by rw [ev_tup]; exact se_tup (fun z => by rw [c.hd] at z; cases hot <;> simp_all) (compL_ok fok hl).2) (fun _ => rfl) (fun _ _ _ z => (nomatch z)) rfl
      · cases h
    | List es pos =>
      simp only [compE] at h
      split at h
      · rename_i l hl
        cases h
        have q := fun mt => se_lst (pos := pos) (hd := cx.hd) mt (fun z => by rw [c.hd] at z; cases hot <;> simp_all) (compL_ok fok hl).2
        refine .plain hK rfl ?_ (fun _ => rfl) (fun _ _ _ z => (nomatch z)) fun _ => ?_
        · rw [ev_lst]; have := q false; simpa only [fin_false] using this
        · rw [ev_lst]; exact q true
      · cases h
    | Subscript l r pos =>
      have slc : (∃ lo hi p2, r = .Slice lo hi none p2) ∨ notSlice r = true ∨ (notSlice r = false ∧ ∀ lo hi p2, r ≠ .Slice lo hi none p2) := by
        cases r with
        | Slice lo hi st p2 => cases st with
          | none => exact .inl ⟨_, _, _, rfl⟩
          | some _ => exact .inr (.inr ⟨rfl, fun _ _ _ z => (nomatch z)⟩)
        | _ => exact .inr (.inl rfl)
      rcases slc with ⟨lo, hi, p2, rfl⟩ | hr | ⟨hr, hn⟩
      · simp only [compE] at h
        split at h
        · rename_i x l1 l2 hx h1 h2
          cases h
          exact noB rfl (by rw [ev_cut]; exact se_cut hK (ih hx).2.1 (compO_ok fok h1) (compO_ok fok h2)) (fun _ => rfl) (fun _ _ _ z => (nomatch z)) rfl
        · cases h
      · have h : (match compE n cc l, compE n cc r with | some x, some y => some (.idx x y) | _, _ => none) = some a := by
          cases r <;> first | (simp [notSlice] at hr; done) | (simp only [compE, notSlice, if_true] at h; exact h)
        split at h
        · rename_i x y hx hy
          cases h
          exact noB rfl (by rw [ev_idx]; exact se_idx hK (fun o i => by cases r <;> first | rfl | cases hr) (ih hx).2.1 (ih hy).2.1) (fun _ => rfl) (fun _ _ _ z => (nomatch z)) rfl
        · cases h
      · exfalso
        cases r <;> first | (simp [notSlice] at hr; done) | skip
        rename_i lo hi st p2
        cases st with
        | none => exact hn _ _ _ rfl
        | some _ => simp [compE, notSlice] at h
    | Call f es kws pos =>
      cases kws with
      | cons _ _ => cases f <;> simp [compE] at h
      | nil =>
        cases f with
        | Name x p =>
          simp only [compE] at h
          split at h
          · rename_i hx
            subst hx
            split at h
            · rename_i l ts kk tp hg
              split at h
              · rename_i y cs hy hcs
                split at h
                · rename_i hne
                  cases h
                  obtain ⟨vs, q1, q2, q3⟩ := tys_ok c hcs
                  obtain ⟨n1, s1, _⟩ := ih hy
                  exact noB rfl (by rw [ev_isi c]; exact se_isiT hK c.sub c.ho (c.glob hg).1 (by rw [c.mg]; exact c.gl _ _ (c.glob hg).2) s1 n1 hne.1 q1 (by rw [q2]; have := hne.2; have z := L2.line63; simp only [sizeLine_eq] at *; omega) q3) (fun _ => rfl) (fun _ _ _ z => (nomatch z)) (by first | rfl | decide)
                · cases h
              · cases h
            · rename_i l t hg
              split at h
              · rename_i y k hy hk
                cases h
                obtain ⟨n2, v, q1, q2⟩ := ty_ok c hk
                obtain ⟨n1, s1, _⟩ := ih hy
                exact noB rfl (by rw [ev_isi c]; exact se_isi1 hK c.sub c.ho (c.glob hg).1 (by rw [c.mg]; exact c.gl _ _ (c.glob hg).2) s1 ⟨n1, n2⟩ q1 q2) (fun _ => rfl) (fun _ _ _ z => (nomatch z)) (by first | rfl | decide)
              · cases h
            · cases h
          · split at h
            · rename_i hg
              split at h
              · cases h
              rename_i hlist
              split at h
              · rename_i l hl
                cases h
                obtain ⟨f, q1, q2⟩ := c.gl _ _ (c.glob hg).2
                obtain ⟨n1, s1⟩ := compL_ok fok hl
                obtain ⟨p1, p2, p3⟩ := plain_of (CcOk.plain hg)
                have C : CallP X g hot W f (fun ds s => cx.call cx.hd x ds s) := c.call X W (Sib.refl X) (.inr rfl) id c.pas x f (c.glob hg).2 q1
                have q : SE X g hot W (.Call (.Name x p) es [] pos) (evE cx (.call x l)) := by
                  rw [ev_call]
                  cases es with
                  | nil =>
                    cases hl
                    rw [evL_nil]
                    exact se_call0 C (c.glob hg).1 (by rw [c.mg]; exact q1) (by rw [hK]; exact q2) p1
                  | cons e0 es => exact se_call C (c.glob hg).1 (by rw [c.mg]; exact q1) (by rw [hK]; exact q2) p1 n1 s1
                exact noB rfl q (fun _ => rfl) (fun _ _ _ z => (nomatch z)) (by cases es <;> simp [newish, hlist])
              · cases h
            · rename_i hg
              split at h
              · rename_i hc
                split at h
                · rename_i b e0 es' hb
                  split at h
                  · rename_i l hl
                    cases h
                    obtain ⟨n1, s1⟩ := compL_ok fok hl
                    have hm : X.mg x = none := by rw [c.mg]; exact c.gl _ _ (c.glob hg).2
                    have hgx := (c.glob hg).1
                    have eb := biOf_name hb
                    subst eb
                    have q := fun mt => se_bi (p := p) (pos := pos) hK c.un c.gu (c.calm hc).1 b mt hgx hm n1 s1
                    refine .plain hK rfl ?_ (fun _ => rfl) (fun _ _ _ z => (nomatch z)) fun _ => ?_
                    · rw [ev_bi]; have := q false; simpa only [fin_false] using this
                    · rw [ev_bi]; exact q true
                  · cases h
                · cases h
              · cases h
            · cases h
        | Attribute o m apos =>
          simp only [compE] at h
          split at h
          · rename_i hc
            split at h
            · rename_i b x q hb hx hq
              cases h
              obtain ⟨n1, s1⟩ := compL_ok fok hq
              have eb := meOf_name hb
              subst eb
              refine noB rfl ?_ (fun _ => rfl) (fun _ _ _ z => (nomatch z)) (by first | rfl | (cases es <;> rfl))
              rw [ev_meth]
              cases es with
              | nil =>
                cases hq
                rw [evL_nil]
                exact se_meth0 (c.calm hc.1).2 b (ih hx).2.1 hc.2.2.1 hc.2.1
              | cons e0 es => exact se_meth (c.calm hc.1).2 b (ih hx).2.1 hc.2.2.1 hc.2.1 n1 hc.2.2.2 s1
            · cases h
          · cases h
        | _ => simp [compE] at h
    | ListComp el gs scope pos =>
      match gs, h with
      | [⟨t, it, ifs, k⟩], h =>
        have hk : k = 0 := Classical.byContradiction fun hk => by simp [compE, hk] at h
        subst hk
        simp only [compE] at h
        split at h
        · rename_i hc
          split at h
          · rename_i i tg b x hi htg hb hx
            cases h
            obtain ⟨hcalm, h0⟩ := c.calm hc.1
            have ok : BlkOk cc.N cc.sc scope (ownOf cc.N scope) := blkOk_by hc.2
            obtain ⟨q1, q2⟩ := compI_ok c h0 fok hi
            have inner := fun s H C cl fp => c.blk h0 scope ok s H C cl fp
            have fin := fun s H C cl fp => (fun e a h => let ⟨h1, h2, h3, _⟩ := compE_ok n (inner s H C cl fp) h; ⟨h1, h2, h3⟩ : FOk (X.blk s H scope (compEnvC scope cl C X.env) fp) g hot noW cx (compE n (cc.inner scope)))
            have q := fun mt => se_comp (W := W) (pos := pos) hcalm h0 c.nd mt (evG_len cx tg) q1 (by rw [c.N, c.sc]; exact ok) (fun s H C cl fp => compG_ok (inner s H C cl fp) (fin s H C cl fp) n htg) (fun s H C cl fp => compIf_ok (fin s H C cl fp) hb)
              (fun s H C cl fp => (compE_ok n (inner s H C cl fp) hx).2.1) q2
            refine .plain hK rfl ?_ (fun _ => rfl) (fun _ _ _ z => (nomatch z)) fun _ => ?_
            · rw [ev_comp]; have := q false; simpa only [fin_false] using this
            · rw [ev_comp]; exact q true
          · cases h
        · cases h
      | [], h => simp [compE] at h
      | _ :: _ :: _, h => simp [compE] at h
    | _ => simp [compE] at h
end Pi

set_option maxRecDepth 100000
/-! Pi, part V: every compiled statement. -/
namespace Pi
open PySem PySem.Spec PyProof.Rows L2

structure StOk (X : L2.Cx) (g : Gn) (hot : Option HotI) (W : WX) (cc : CC) (cx : Ct) : Prop where
  c : CcOk X g hot W cc cx
  own : PassesOwn (model X.prog X.w) X.A X.env X.xe
  tk : cc.calm = true → L2N.Takes X W
  stk : X.stack = X.env :: X.outer
  frm : X.env.frame = some X.env.locals
  blk : cc.blk = none
  exc : ∀ x m xc, cc.gl x = some .exc → cx.mkx x [.str m] = some xc → RaisesOk X g x ∧ xc.cls = x ∧ xc.fs = []
  suite : cc.calm = true → ∀ (a : Addr) (oe : PySem.Obj) (cls : Value) (d : Option Addr) (pn : List (Addr × PySem.Obj)) (xc : Exc), g.mg xc.cls = some cls → (∃ C, cls = .ref C) → L2N.Zn cls d oe → (∃ vs, oe.data = .fields vs) →
    CcOk (X.suite a ((a, oe) :: pn)) g (some ⟨a, xc, d⟩) noW { cc with calm := false } { cx with hd := some xc }

section
variable {X : L2.Cx} {g : Gn} {hot : Option HotI} {W : WX} {cc : CC} {cx : Ct}
theorem loc_of {x : Str} {i : Nat} (c : CcOk X g hot W cc cx) (h : plainLoc cc x = some i) : X.N[i]? = some x ∧ X.env.scope.names.lookup x = some .local ∧ plainName x = true := by
  unfold plainLoc at h
  split at h
  · rename_i e
    exact ⟨(c.store h).1, by rw [c.sc]; exact e.2, e.1⟩
  · cases h
theorem sto_of {x : Str} {i : Nat} (c : CcOk X g hot W cc cx) (h : plainSto cc x = some i) : X.N[i]? = some x ∧ Loc X.env.scope x ∧ (X.fn x = true ∨ X.env.scope.names.lookup x = some .local) := by
  unfold plainSto at h
  split at h
  · exact c.store h
  · cases h
theorem compE'_ok (c : CcOk X g hot W cc cx) {n : Nat} {mt : Bool} {e : Expr} {a : E} (h : compE' cc n mt e = some a) : ∃ b : E, compE n cc e = some b ∧ SE X g hot W e (evE cx a) ∧ (a = b ∨ (newish e = true ∧ a = .mat b)) := by
  unfold compE' at h
  split at h
  · rename_i b hb
    have q := compE_ok n c hb
    split at h
    · rename_i hm
      cases h
      exact ⟨b, hb, by rw [ev_mat]; exact q.2.2.2.2 hm.2, .inr ⟨hm.2, rfl⟩⟩
    · cases h
      exact ⟨_, hb, q.2.1, .inl rfl⟩
  · cases h
theorem sw_plain {e : Expr} (h : isComp e = false) (t : Option Expr) (l : Nat) (env : PySem.Env) : swapsWith e t l env = pure false := by
  unfold swapsWith
  cases e <;> first | rfl | cases h
/-! ### what statements do -/
theorem xs_asg (t : TG) (a : E) : exS cx (.asg t a) = fun e s => thenO (evE cx a e s) e fun d s1 => thenO (evG cx t d e s1) e fun e1 s1 => .nx e1 s1 := by
  funext e s
  rw [exS]
  cases evE cx a e s with
  | ok d s1 => simp only [Res.bind_ok, thenO]; cases evG cx t d e s1 <;> rfl
  | exc x s1 => rfl
  | stuck => rfl
theorem xs_set (i : Nat) (a : E) : exS cx (.asg (.v i) a) = fun e s => thenO (evE cx a e s) e fun d s1 => setS i d e s1 := by
  rw [xs_asg, evG_v]; rfl
theorem xs_ret (a : E) : exS cx (.ret a) = fun e s => thenO (evE cx a e s) e fun d s1 => .rt d s1 := by funext e s; rw [exS]; cases evE cx a e s <;> rfl
theorem xs_retN : exS cx .retN = fun _ s => .rt .non s := by funext e s; rw [exS]
theorem xs_pass : exS cx .pass = fun e s => .nx e s := by funext e s; rw [exS]
theorem xs_brk : exS cx .brk = fun e s => .bk e s := by funext e s; rw [exS]
theorem xs_cont : exS cx .cont = fun e s => .ct e s := by funext e s; rw [exS]
theorem xs_ex (a : E) : exS cx (.ex a) = fun e s => thenO (evE cx a e s) e fun _ s1 => .nx e s1 := by funext e s; rw [exS]; cases evE cx a e s <;> rfl
theorem xs_ite (t : E) (a b : SL) : exS cx (.ite t a b) = fun e s => thenO (tst (evE cx t e s)) e fun k s1 => if k then exSs cx a e s1 else exSs cx b e s1 := by
  funext e s; rw [exS]
  cases tst (evE cx t e s) with
  | ok k s1 => cases k <;> rfl
  | exc x s1 => rfl
  | stuck => rfl
theorem xs_for (t : TG) (i : IT) (b : SL) : exS cx (.for t i b) = fun e s => thenO (evI cx i e s) e fun p s1 => loopFor p.2 (evG cx t) (exSs cx b) p.1 e s1 := by
  funext e s; rw [exS]; cases evI cx i e s <;> rfl
theorem xs_while (t : E) (b : SL) : exS cx (.while t b) = loopWhile (fun e s => tst (evE cx t e s)) (exSs cx b) cx.fuel := by funext e s; rw [exS]
theorem xs_par (is : List Nat) (es : EL) : exS cx (.par is es) = fun e s => thenO (evL cx es e s) e fun ds s1 => parS is ds e s1 := by funext e s; rw [exS]; cases evL cx es e s <;> rfl
theorem xs_aug (i : Nat) (a : E) : exS cx (.aug i .Add a) = fun e s => thenO (augR i (evE cx a) e s) e fun d s1 => .nx (e.set i (some d)) s1 := by
  funext e s; rw [exS, comp_var]
  unfold augR
  simp only [if_true]
  cases (getV i e s).bind fun x s0 => (evE cx a e s0).bind fun y s1 => Res.of (augD s1 x y) s1 <;> rfl
theorem xs_raise (c : Str) (m : Str) : exS cx (.raise c (.cons (.c (.str m)) .nil)) = match cx.mkx c [.str m] with
    | some xc => raiseS xc
    | none => fun _ _ => .stuck := by
  funext e s; rw [exS, evL_cons, evL_nil, comp_c]
  simp only [Res.bind_ok]
  cases cx.mkx c [.str m] <;> rfl
theorem xs_try (b h : SL) (c : Str) (i : Option Nat) : exS cx (.try b (.cons c i h .nil)) = tryR cx.sub c i (exSs cx b) (fun xc e s => exSs { cx with hd := some xc } h e s) := by
  funext e s; rw [exS]
  unfold tryR
  cases hb : exSs cx b e s with
  | exc e1 xc s1 =>
    show exHs cx (.cons c i h .nil) xc e1 s1 = _
    rw [exHs.eq_def]
    simp only
    cases cx.sub xc.cls c with
    | none => rfl
    | some k => cases k with
      | true => rfl
      | false => simp only; rw [exHs.eq_def]
  | _ => rfl
theorem xss_nil : exSs cx .nil = fun e s => .nx e s := by funext e s; rw [exSs]
theorem xss_cons (a : S) (r : SL) : exSs cx (.cons a r) = seqR (exS cx a) (exSs cx r) := by funext e s; rw [exSs]; unfold seqR; cases exS cx a e s <;> rfl
theorem compSs_ok {f : Stmt → Option S} (hf : ∀ st s, f st = some s → SS X g hot W st (exS cx s)) : ∀ {sts : List Stmt} {l : SL}, compSs f sts = some l → SSs X g hot W sts (exSs cx l)
  | [], l, h => by cases h; rw [xss_nil]; exact ss_nil
  | st :: sts, l, h => by
    unfold compSs at h
    split at h
    · rename_i a q ha hq
      cases h
      rw [xss_cons]
      exact ss_cons (hf _ _ ha) (compSs_ok hf hq)
    · cases h
theorem StOk.tr (o : StOk X g none W cc cx) (hc : cc.calm = true) {W' : WX} {pn : List (Addr × PySem.Obj)} {xe : Value → Shared → Prop} (tk : L2N.Takes (X.tr pn xe) W') (ow : PassesOwn (model X.prog X.w) X.A X.env xe) : StOk (X.tr pn xe) g none W' cc cx where
  c := {
    hK := o.c.hK
    mg := o.c.mg
    N := o.c.N
    nd := o.c.nd
    kind := o.c.kind
    sc := o.c.sc
    un := o.c.un
    gu := o.c.gu
    calm := o.c.calm
    hd := o.c.hd
    sub := o.c.sub
    ho := fun p hp => by cases hp
    fn := o.c.fn
    gl := o.c.gl
    pas := fun σ => L2N.passAt tk σ
    call := fun X' W2 sb hp hcl ps f a h1 h2 => o.c.call X' W2 ⟨sb.prog, sb.w, sb.K, sb.mg, sb.base, sb.A⟩ (.inl rfl) hcl ps f a h1 h2 }
  own := ow
  tk := fun _ => tk
  stk := o.stk
  frm := o.frm
  blk := o.blk
  exc := o.exc
  suite := fun h a oe cls d pn' xc h1 hC h2 h3 => o.suite h a oe cls d pn' xc h1 hC h2 h3
theorem StOk.inSuite (o : StOk X g none W cc cx) (hc : cc.calm = true) {a : Addr} {oe : PySem.Obj} {cls : Value} {d : Option Addr} {pn : List (Addr × PySem.Obj)} {xc : Exc} (h1 : g.mg xc.cls = some cls) (hC : ∃ C, cls = .ref C) (h2 : L2N.Zn cls d oe) (h3 : ∃ vs, oe.data = .fields vs) :
    StOk (X.suite a ((a, oe) :: pn)) g (some ⟨a, xc, d⟩) noW { cc with calm := false } { cx with hd := some xc } where
  c := o.suite hc a oe cls d pn xc h1 hC h2 h3
  own := PassesOwn.never
  tk := fun z => by cases z
  stk := o.stk
  frm := o.frm
  blk := o.blk
  exc := o.exc
  suite := fun z => by cases z
/-! ### swapped stores -/
theorem block_fn (c : CcOk X g hot W cc cx) : (X.env.blockKind != .function) = false := by
  have : X.env.blockKind = .function := by unfold Env.blockKind; rw [c.kind]; rfl
  rw [this]; rfl
theorem star_match {e : Expr} (h : noStar e = true) : (match e with | .Starred .. => true | _ => false) = false := by cases e <;> first | rfl | cases h
theorem swap2_of (c : CcOk X g hot W cc cx) {p q tp p2 : Pos} {x y : Str} {a b : Expr} {k k2 : Nat} (hx : X.env.scope.names.lookup x = some .local) (hy : X.env.scope.names.lookup y = some .local) (h : swap2 p q x y a b = true) :
    swappedStores [.Tuple [.Name x p, .Name y q] k tp] (.Tuple [a, b] k2 p2) X.env = pure (some [x, y]) := by
  simp only [swap2, Bool.and_eq_true, decide_eq_true_eq, Bool.not_eq_true'] at h
  obtain ⟨⟨⟨⟨⟨h1, h2⟩, h3⟩, h4⟩, h5⟩, h6⟩ := h
  have kx : X.env.kindOf x = some .local := hx
  have ky : X.env.kindOf y = some .local := hy
  have hbk := block_fn c
  unfold swappedStores
  simp [hbk, kx, ky, h1, Expr.pos, List.eraseDups_cons, h5, h6, Ne.symm h4]
  rintro (z | z)
  · cases a <;> first | (cases h2; done) | (cases z; done)
  · cases b <;> first | (cases h3; done) | (cases z; done)
theorem swap3_of (c : CcOk X g hot W cc cx) {p q r tp p2 : Pos} {x y z : Str} {a b d : Expr} {k k2 : Nat} (hx : X.env.scope.names.lookup x = some .local) (hy : X.env.scope.names.lookup y = some .local) (hz : X.env.scope.names.lookup z = some .local) (h : swap3 p q r x y z a b d = true) :
    swappedStores [.Tuple [.Name x p, .Name y q, .Name z r] k tp] (.Tuple [a, b, d] k2 p2) X.env = pure (some [x, y, z]) := by
  simp only [swap3, Bool.and_eq_true, decide_eq_true_eq, Bool.not_eq_true'] at h
  obtain ⟨⟨⟨⟨⟨⟨⟨⟨⟨h1, h2⟩, h3⟩, h4⟩, h5⟩, h6⟩, h7⟩, h8⟩, h9⟩, h10⟩ := h
  have kx : X.env.kindOf x = some .local := hx
  have ky : X.env.kindOf y = some .local := hy
  have kz : X.env.kindOf z = some .local := hz
  have hbk := block_fn c
  unfold swappedStores
  simp only [Bool.and_assoc] at h9 h10
  simp [hbk, kx, ky, kz, h1, h2, Expr.pos, List.eraseDups_cons, h9, h10, Ne.symm h6, Ne.symm h7, Ne.symm h8]
  rintro (z | z | z)
  · cases a <;> first | (cases h3; done) | (cases z; done)
  · cases b <;> first | (cases h4; done) | (cases z; done)
  · cases d <;> first | (cases h5; done) | (cases z; done)
theorem noSwap_of (c : CcOk X g hot W cc cx) {t e : Expr} (h : noSwapE cc t e = true) (hl : noStar t = true) (hn : isList t = false) : swappedStores [t] e X.env = pure none := by
  have hbk := block_fn c
  have hk : ∀ n, X.env.kindOf n = cc.sc.names.lookup n := fun n => by rw [← c.sc]; rfl
  unfold swappedStores
  cases t with
  | Tuple ts k1 p1 =>
    cases e with
    | Tuple vs k2 p2 =>
      simp only [noSwapE, noSwap, Bool.or_eq_true] at h
      simp only [hbk, Bool.or_false]
      split
      · rfl
      · rename_i h1
        have h2 : vs.all (foldedForSure 8) = true := by
          rcases h with h | h
          · exfalso; apply h1; rw [Bool.or_eq_true]; exact h
          · exact h
        split
        · rfl
        · split
          · rfl
          · rfl
    | _ => rfl
  | List ts p1 => cases hn
  | _ => rfl
end
end Pi

set_option maxRecDepth 100000
/-! Pi, part W: every compiled statement, the theorem. -/
namespace Pi
open PySem PySem.Spec PyProof.Rows L2

section
variable {X : L2.Cx} {g : Gn} {hot : Option HotI} {W : WX} {cc : CC} {cx : Ct}
theorem compAsg_ok (o : StOk X g hot W cc cx) {n : Nat} {t e : Expr} {s : S} {pos : Pos} (h : compAsg n cc t e = some s) : SS X g hot W (.Assign [t] e pos) (exS cx s) := by
  unfold compAsg at h
  split at h
  · rename_i hc
    split at h
    · rename_i tg a ht ha
      cases h
      have fok : FOk X g hot W cx (compE n cc) := fun e a h => let ⟨h1, h2, h3, _⟩ := compE_ok n o.c h; ⟨h1, h2, h3⟩
      have hl : isList t = false := by
        cases t <;> first | rfl | skip
        cases n <;> simp [compG] at ht
      rw [xs_asg]
      exact ss_asg (compE_ok n o.c ha).2.1 (compG_ok o.c fok n ht) (evG_nx cx tg) (sw_plain hc.1 _ _ _) (noSwap_of o.c hc.2.2.1 hc.2.2.2.1 hl) (by rw [assignEach_cons hc.2.2.2.1]; rfl)
    · cases h
  · cases h
theorem set_ok (o : StOk X g hot W cc cx) {n : Nat} {x : Str} {p pos : Pos} {e : Expr} {mt : Bool} {i : Nat} {a : E} (hi : plainSto cc x = some i) (ha : compE' cc n mt e = some a) (hne : (∀ a b c d, e ≠ .SetComp a b c d) ∧ ∀ a b c d f, e ≠ .DictComp a b c d f) :
    SS X g hot W (.Assign [.Name x p] e pos) (exS cx (.asg (.v i) a)) := by
  obtain ⟨h1, h2, h3⟩ := sto_of o.c hi
  obtain ⟨b, hb, se, hab⟩ := compE'_ok o.c ha
  rw [xs_set]
  by_cases hcomp : isComp e = false
  · exact ss_set o.c.nd h1 h2 se (sw_plain hcomp _ _ _) h3
  · cases e with
    | SetComp a b c d => exact absurd rfl (hne.1 a b c d)
    | DictComp a b c d f => exact absurd rfl (hne.2 a b c d f)
    | ListComp el gs scope lp =>
      by_cases hloc : ¬ X.env.scope.names.lookup x = some .local
      · have hsw : swapsWith (.ListComp el gs scope lp) (some (.Name x p)) pos.line X.env = pure false := by
          have hb : X.env.blockKind = .function := by unfold Env.blockKind; rw [o.c.kind]; rfl
          have hk : (X.env.kindOf x == some .local) = false := by
            rw [beq_eq_false_iff_ne]; exact hloc
          unfold swapsWith
          simp only [hb, hk]
          rfl
        exact ss_set o.c.nd h1 h2 se hsw h3
      have h2 := Classical.not_not.mp hloc
      by_cases hsame : (p.line == lp.line && !(scope.names.any fun (m, k) => m == x && (k == .local || k == .cell))) = true
      · simp only [Bool.and_eq_true, Bool.not_eq_true'] at hsame
        have hsw : swapsWith (.ListComp el gs scope lp) (some (.Name x p)) pos.line X.env = pure true := sw_true o.c.kind h2 hsame.1 hsame.2
        cases n with
        | zero => simp [compE] at hb
        | succ n =>
          match gs, hb, hsw, ha, se with
          | [⟨t, it, ifs, k⟩], hb, hsw, ha, se =>
            have hk : k = 0 := Classical.byContradiction fun hk => by simp [compE, hk] at hb
            subst hk
            simp only [compE] at hb
            split at hb
            · rename_i hc
              split at hb
              · rename_i i' tg b' x' hi' htg hb' hx'
                cases hb
                have fok : FOk X g hot W cx (compE n cc) := fun e a h => let ⟨h1, h2, h3, _⟩ := compE_ok n o.c h; ⟨h1, h2, h3⟩
                obtain ⟨hcalm, h0⟩ := o.c.calm hc.1
                have ok : BlkOk cc.N cc.sc scope (ownOf cc.N scope) := blkOk_by hc.2
                obtain ⟨q1, q2⟩ := compI_ok o.c h0 fok hi'
                have inner := fun s H C cl fp => o.c.blk h0 scope ok s H C cl fp
                have fin := fun s H C cl fp => (fun e a h => let ⟨h1, h2, h3, _⟩ := compE_ok n (inner s H C cl fp) h; ⟨h1, h2, h3⟩ : FOk (X.blk s H scope (compEnvC scope cl C X.env) fp) g hot noW cx (compE n (cc.inner scope)))
                have q := fun mt => ss_setLc (W := W) (i := i) (n := x) (py := p) (spos := pos) (pos := lp) hcalm h0 o.c.nd mt (evG_len cx tg) h1 h2 hsw q1 (by rw [o.c.N, o.c.sc]; exact ok) (fun s H C cl fp => compG_ok (inner s H C cl fp) (fin s H C cl fp) n htg) (fun s H C cl fp => compIf_ok (fin s H C cl fp) hb')
                  (fun s H C cl fp => (compE_ok n (inner s H C cl fp) hx').2.1) q2
                rcases hab with rfl | ⟨_, rfl⟩
                · have := q false
                  simp only [fin_false] at this
                  rw [ev_comp]; exact this
                · have := q true
                  rw [ev_mat, ev_comp]; exact this
              · cases hb
            · cases hb
          | [], hb, _, _, _ => simp [compE] at hb
          | _ :: _ :: _, hb, _, _, _ => simp [compE] at hb
      · have hsw : swapsWith (.ListComp el gs scope lp) (some (.Name x p)) pos.line X.env = pure false := by
          have ky : X.env.kindOf x = some .local := h2
          have hb : X.env.blockKind = .function := by unfold Env.blockKind; rw [o.c.kind]; rfl
          have z : (p.line == lp.line && !(scope.names.any fun (m, k) => m == x && (k == .local || k == .cell))) = false := Bool.eq_false_iff.mpr hsame
          unfold swapsWith
          simp only [hb, ky, Expr.pos]
          rw [show (ScopeKind.function == ScopeKind.function && some NameKind.local == some NameKind.local && p.line == lp.line && !(scope.names.any fun (m, k) => m == x && (k == .local || k == .cell))) = (p.line == lp.line && !(scope.names.any fun (m, k) => m == x && (k == .local || k == .cell))) from rfl, z]
        exact ss_set o.c.nd h1 (.inl h2) se hsw (.inr h2)
    | _ => exact absurd rfl hcomp
theorem compAssign_ok (o : StOk X g hot W cc cx) {n : Nat} {ts : List Expr} {e : Expr} {s : S} {pos : Pos} (h : compAssign n cc ts e = some s) : SS X g hot W (.Assign ts e pos) (exS cx s) := by
  have fok : FOk X g hot W cx (compE n cc) := fun e a h => let ⟨h1, h2, h3, _⟩ := compE_ok n o.c h; ⟨h1, h2, h3⟩
  unfold compAssign at h
  split at h
  · rename_i x p e
    split at h
    · rename_i i a hi ha
      split at h
      · cases h
      · cases h
      · rename_i h1 h2
        cases h
        exact set_ok o hi ha ⟨fun a b c d z => h1 a b c d z, fun a b c d f z => h2 a b c d f z⟩
    · cases h
  · rename_i x p y q k1 p1 a b k2 p2
    split at h
    · rename_i hc
      split at h
      · rename_i i j l hi hj hl
        split at h
        · rename_i hij
          cases h
          obtain ⟨a1, a2, _⟩ := loc_of o.c hi
          obtain ⟨b1, b2, _⟩ := loc_of o.c hj
          rw [xs_par]
          exact ss_par (o.c.calm hc.1).1 o.c.nd a1 b1 hij a2 b2 (compL_ok fok hl).2 (swap2_of o.c a2 b2 hc.2) rfl
        · cases h
      · cases h
    · exact compAsg_ok o h
  · rename_i x p y q z r k1 p1 a b c k2 p2
    split at h
    · rename_i hc
      split at h
      · rename_i i j k l hi hj hk hl
        split at h
        · rename_i hij
          cases h
          obtain ⟨a1, a2, _⟩ := loc_of o.c hi
          obtain ⟨b1, b2, _⟩ := loc_of o.c hj
          obtain ⟨c1, c2, _⟩ := loc_of o.c hk
          rw [xs_par]
          exact ss_par3 (o.c.calm hc.1).1 o.c.nd a1 b1 c1 hij.1 hij.2.1 hij.2.2 a2 b2 c2 (compL_ok fok hl).2 (swap3_of o.c a2 b2 c2 hc.2) rfl
        · cases h
      · cases h
    · exact compAsg_ok o h
  · exact compAsg_ok o h
  · cases h
end
theorem compS_ok : ∀ (n : Nat) {X : L2.Cx} {g : Gn} {hot : Option HotI} {W : WX} {cc : CC} {cx : Ct} {st : Stmt} {s : S}, StOk X g hot W cc cx → compS n cc st = some s → SS X g hot W st (exS cx s)
  | 0, _, _, _, _, _, _, _, _, _, h => by simp [compS] at h
  | n + 1, X, g, hot, W, cc, cx, st, s, o, h => by
    have ih := fun {st : Stmt} {s : S} (h : compS n cc st = some s) => compS_ok n o h
    have ihs := fun {sts : List Stmt} {l : SL} (h : compSs (compS n cc) sts = some l) => compSs_ok (fun st s h => compS_ok n o h) h
    have fok : FOk X g hot W cx (compE n cc) := fun e a h => let ⟨h1, h2, h3, _⟩ := compE_ok n o.c h; ⟨h1, h2, h3⟩
    cases st with
    | Pass _ => simp only [compS] at h; cases h; rw [xs_pass]; exact ss_pass
    | Break _ => simp only [compS] at h; cases h; rw [xs_brk]; exact ss_break
    | Continue _ => simp only [compS] at h; cases h; rw [xs_cont]; exact ss_cont
    | Expr e pos =>
      simp only [compS] at h
      split at h
      · cases h
      · rename_i hc
        split at h
        · rename_i a ha
          cases h
          rw [xs_ex]
          exact ss_ex (compE_ok n o.c ha).2.1 (sw_plain (by simpa using hc) _ _ _)
        · cases h
    | Return e pos =>
      cases e with
      | none => simp only [compS] at h; cases h; rw [xs_retN]; exact ss_retN
      | some e =>
        simp only [compS] at h
        split at h
        · rename_i a ha
          cases h
          obtain ⟨_, _, se, _⟩ := compE'_ok o.c ha
          rw [xs_ret]
          exact ss_ret se
        · cases h
    | If t a b pos =>
      simp only [compS] at h
      split at h
      · rename_i x y z hx hy hz
        cases h
        rw [xs_ite]
        exact ss_if (compE_ok n o.c hx).2.2.1 (ihs hy) (ihs hz)
      · cases h
    | For t it b els pos =>
      cases els with
      | cons _ _ => simp [compS] at h
      | nil =>
        simp only [compS] at h
        split at h
        · rename_i hc
          split at h
          · rename_i i tg q hi htg hq
            cases h
            obtain ⟨hcalm, h0⟩ := o.c.calm hc
            obtain ⟨q1, q2⟩ := compI_ok o.c h0 fok hi
            rw [xs_for]
            exact ss_for o.own hcalm (evG_nx cx tg) q1 (compG_ok o.c fok n htg) (ihs hq) q2
          · cases h
        · cases h
    | While t b els pos =>
      cases els with
      | cons _ _ => simp [compS] at h
      | nil =>
        simp only [compS] at h
        split at h
        · rename_i x q hx hq
          cases h
          rw [xs_while]
          exact ss_while o.own cx.fuel (compE_ok n o.c hx).2.2.1 (ihs hq)
        · cases h
    | AugAssign t op e pos =>
      cases t <;> first | (simp [compS] at h; done) | skip
      rename_i x p
      cases op <;> first | (simp [compS] at h; done) | skip
      simp only [compS] at h
      split at h
      · rename_i hc
        split at h
        · rename_i i a hi ha
          cases h
          obtain ⟨h1, h2, h3⟩ := sto_of o.c hi
          rw [xs_aug]
          exact ss_aug o.c.nd h1 h2 (compE_ok n o.c ha).2.1 h3
        · cases h
      · cases h
    | Assign ts e pos =>
      simp only [compS] at h
      exact compAssign_ok o h
    | Raise e c pos =>
      cases e with
      | none => simp [compS] at h
      | some e =>
        cases c with
        | some _ => simp [compS] at h
        | none =>
          simp only [compS] at h
          unfold compRaise at h
          split at h
          · rename_i c p1 m j p2 p3
            split at h
            · rename_i hc
              split at h
              · rename_i hg
                cases h
                rw [xs_raise]
                cases hx : cx.mkx c [.str m] with
                | none => exact ps_never.imp fun D σ H ⟨m, x, e, s, rl, P⟩ => P
                | some xc =>
                  obtain ⟨q1, q2, q3⟩ := o.exc c m xc (o.c.glob hg).2 hx
                  exact ss_raise (o.c.calm hc).1 (o.tk hc) o.c.mg q1 (o.c.glob hg).1 (plain_of (CcOk.plain hg)).1 q2 q3
              · cases h
            · cases h
          · cases h
    | Try b hs e1 e2 pos =>
      cases e1 with
      | cons _ _ => simp [compS] at h
      | nil =>
        cases e2 with
        | cons _ _ => simp [compS] at h
        | nil =>
          simp only [compS] at h
          split at h
          · rename_i q hl hq hh
            cases h
            have names : ∀ {c : Str}, cc.glob c = some .exc → ∃ cv, Names X c cv ∧ g.mg c = some cv := fun {c} hg => by
              obtain ⟨a, q1⟩ := o.c.gl _ _ (o.c.glob hg).2
              exact ⟨.ref a, ⟨(o.c.glob hg).1, (plain_of (CcOk.plain hg)).1, .inl (by rw [o.c.mg]; exact q1)⟩, q1⟩
            unfold compHs at hh
            split at hh
            · rename_i c p1 x s0 sr p2
              split at hh
              · rename_i hc
                split at hh
                · rename_i i h hg hi hs
                  cases hh
                  obtain ⟨hcalm, h0⟩ := o.c.calm hc
                  subst h0
                  obtain ⟨cv, n1, n2⟩ := names hg
                  obtain ⟨l1, l2, l3⟩ := loc_of o.c hi
                  rw [xs_try]
                  refine ss_tryAs o.c.hK o.stk o.frm o.c.nd l1 l2 n1 n2 o.c.sub (o.tk hc) (fun W' pn xe tk ow => compSs_ok (fun st s h => compS_ok n (o.tr hc tk ow) h) hq) (fun a oe cls d pn xc h1 hC h2 h3 => compSs_ok (fun st s h => compS_ok n (o.inSuite hc h1 hC h2 h3) h) hs)
                · cases hh
              · cases hh
            · rename_i c p1 s0 sr p2
              split at hh
              · rename_i hc
                split at hh
                · rename_i h hg hs
                  cases hh
                  obtain ⟨hcalm, h0⟩ := o.c.calm hc
                  subst h0
                  obtain ⟨cv, n1, n2⟩ := names hg
                  rw [xs_try]
                  refine ss_tryOnly o.c.hK o.stk o.frm n1 n2 o.c.sub (o.tk hc) (fun W' pn xe tk ow => compSs_ok (fun st s h => compS_ok n (o.tr hc tk ow) h) hq) (fun a oe cls d pn xc h1 hC h2 h3 => compSs_ok (fun st s h => compS_ok n (o.inSuite hc h1 hC h2 h3) h) hs)
                · cases hh
              · cases hh
            · cases hh
          · cases h
    | _ => simp [compS] at h
end Pi

set_option maxRecDepth 100000
/-! Pi, part X: defs, by their bodies; the table of all defs. -/
namespace Pi
open PySem PySem.Spec PyProof.Rows L2

/-! ### room, the handled exception -/
structure RoomP (k : Nat) (A : Around) : Prop where
  dp : A.depth + 3 * k + 5 < recursionLimit
  un : A.units + 16 * k + 200 < cLine
  gu : A.guards = some []
theorem RoomP.deeper {k : Nat} {A : Around} (r : RoomP (k + 1) A) (env : PySem.Env) : RoomP k (A.deeper env) :=
  ⟨by have := r.dp; show A.depth + 1 + 3 * k + 5 < _; omega, by have := r.un; show A.units + 3 + 16 * k + 200 < _; omega, by
    have := r.gu
    first | exact this | (simpa [Around.deeper] using this)⟩
/-- what is handled at a call: nothing, or the exception of p -/
def HotA (A : Around) : Option (Addr × PySem.Obj) → Prop
  | none => A.handled = none
  | some p => L2H.Hot1 A p
def PinA (outer : List PySem.Env) (H : Hp) (s : Shared) (hd : Option (Addr × PySem.Obj)) : Prop := ∀ p, hd = some p → L2H.PinOk outer H s p
/-- what a def promises, while hd is handled -/
structure FnP (P : Program) (w : World) (K : PySem.W.Frag) (mg : Str → Option Value) (base : Heap) (k : Nat) (f : Addr) (fd : FuncData) (ps : List Str) (hd : Option (Addr × PySem.Obj)) (sp : Sp) : Prop where
  len : ∀ vs H Q E, sp vs H Q E → vs.length = ps.length
  run : ∀ (A : Around) (outer : List PySem.Env) (s : Shared) (H : Hp) (args : Args) (us : List Value) (vs : List V) (Q : VK) (E : XK), RoomP k A → HotA A hd → PinA outer H s hd → Env0 P w K mg base A outer s H → BindsTo s fd args (ps.zip us) → Vals vs us → sp vs H Q E →
    codeAny (model P w) A (.call (.ref f) args) (CR (L2N.CX P w) outer P w H s Q E) s
/-- the context of such a def's body -/
def cxP (P : Program) (w : World) (K : PySem.W.Frag) (mg : Str → Option Value) (base : Heap) (N : List Str) (qual : Str) (scope : Scope) (f : Addr) (cd : Value) (A : Around) (outer : List PySem.Env) (s : Shared) (H : Hp) (E : XK) (hd : Option (Addr × PySem.Obj)) : L2.Cx := match hd with
  | none => cxOf (L2N.CX P w) P w K mg base N qual scope f cd A outer s H E
  | some p => L2H.cxH (L2N.CX P w) P w K mg base N qual scope f cd A outer s H E p
theorem fn_ofP {P : Program} {w : World} {K : PySem.W.Frag} {mg : Str → Option Value} {base : Heap} {k : Nat} {f : Addr} {name qual : Str} {params : Arguments} {body : List Stmt} {scope : Scope} {dV kV doc pm cdv ct oc : Value} {an od : Option Addr}
    {osl : Array (Option Value)} {N ps : List Str} {hd : Option (Addr × PySem.Obj)} {sp : Sp} (lk : K.lookup f = some ⟨oc, od, .func (PySem.W.fnOf name qual params body scope dV kV doc pm an cdv ct), osl⟩) (hcd : PySem.W.codeIn K cdv qual = true) (S : FnScope N ps scope)
    (len : ∀ vs H Q E, sp vs H Q E → vs.length = ps.length)
    (hbody : ∀ (A : Around) (outer : List PySem.Env) (s : Shared) (H : Hp) (vs : List V) (Q : VK) (E : XK), HotA A hd → RoomP k (A.deeper (envOfC qual scope s.heap.objs.size f cdv)) → sp vs H Q E →
      ∃ t, PSs (cxP P w K mg base N qual scope f cdv A outer s H E hd) body t ∧ t { nx := fun _ H' => Q .non H', rt := Q } (L2.start N vs) H) :
    FnP P w K mg base (k + 1) f (PySem.W.fnOf name qual params body scope dV kV doc pm an cdv ct) ps hd sp := by
  refine ⟨len, fun A outer s H args us vs Q E hr hot hpin e0 hb r hsp => ?_⟩
  have hl := len _ _ _ _ hsp
  have KX : K.In s.heap := e0.mod.kin.keeps fun b o e => (e0.bs b o e).1
  have hdep : A.depth < recursionLimit := by have := hr.dp; omega
  have hkind : ∀ y ∈ ps.zip us, scope.names.lookup y.1 = some .local ∨ (scope.names.lookup y.1 = some .cell ∧ ((cellsFrom (s.heap.objs.size + 1) scope.names []).lookup y.1).isSome = true) := fun ⟨n, v⟩ hy =>
    (S.par n (List.of_mem_zip hy).1).imp id fun q => ⟨q, PySem.W.cellsFrom_some _ _ _ (.inl q)⟩
  refine codeAny_call_function hdep (KX _ _ lk) rfl S.co S.gen rfl (PySem.W.codeRec_of KX hcd) (hb _ _ _ _ (wpAny_newFunctionEnv_cells S.kind hkind fun env he s1 x => ?_))
  subst he
  refine ⟨(e0.mod.nolimit.keeps fun b o e => (e0.bs b o e).1).keeps x.toInCall.keep, codeAny_func ?_⟩
  obtain ⟨t, ht, hq⟩ := hbody A outer s H vs Q E hot (hr.deeper _) hsp
  have fin : ∀ {X : L2.Cx} {s' : Shared} {fl : Flow}, X.s_0 = s → X.H_0 = H → X.fs = frs outer → X.ex = [] → X.prog = P → X.w = w → SP X [] { nx := fun _ H' => Q .non H', rt := Q } fl s' →
      CR (L2N.CX P w) outer P w H s Q E (match fl with | .next => .ok (.ret .none) | fl => .ok fl) s' := by
    intro X s' fl h1 h2 h3 h4 h5 h6 h
    subst h1 h2 h5 h6
    have one : ∀ {σ' : L2.St} {H' : Hp} {v : V} {u : Value}, Inv X [] σ' H' s' → RelV v u → Q v H' → CE outer X.prog X.w X.H_0 X.s_0 Q u s' := fun {σ' H' v u} J rv q => ⟨v, H', J.os, J.bare, by rw [← h3, ← h4]; exact J.base, J.hok, rv, q⟩
    cases fl with
    | ret u => obtain ⟨v, σ', H', J, rv, q⟩ := h; exact one J rv q
    | next => obtain ⟨σ', H', J, q⟩ := h; exact one (v := .non) J rfl q
    | brk => obtain ⟨_, _, _, q⟩ := h; exact q.elim
    | cont => obtain ⟨_, _, _, q⟩ := h; exact q.elim
  cases hd with
  | none =>
    have I : Inv (cxOf (L2N.CX P w) P w K mg base N qual scope f cdv A outer s H E) [] (L2.start N vs) H s1 := inv_start S hot e0 hl r x
    refine wpAny_mono (ht.run [] s1 (L2.start N vs) H _ I hq) (fun fl s' hs => ?_) fun e s' hs => hs
    have q := fin rfl rfl rfl rfl rfl rfl hs
    cases fl <;> first | exact q | exact False.elim q
  | some p =>
    have I : Inv (L2H.cxH (L2N.CX P w) P w K mg base N qual scope f cdv A outer s H E p) [] (L2.start N vs) H s1 := L2H.inv_startH S (hpin p rfl) e0 hl r x
    refine wpAny_mono (ht.run [] s1 (L2.start N vs) H _ I hq) (fun fl s' hs => ?_) fun e s' hs => hs
    have q := fin rfl rfl rfl rfl rfl rfl hs
    cases fl <;> first | exact q | exact False.elim q
end Pi

set_option maxRecDepth 100000
/-! Pi, part Y: the end of a def: its own objects are forgotten. -/
namespace Pi
open PySem PySem.Spec PyProof.Rows L2

section
variable {g : Gn} {hot : Option HotI} {m m1 x : List Addr} {H H1 : Hp} {s s1 : Sto} {n : Nat}
mutual
theorem DRel.fewer (hm : m = m1.take n) : ∀ (d : D) (v : V), d.cl n = true → DRel g m1 x H d v → DRel g m x H d v
  | .non, _, _, h | .bl _, _, _, h | .int _, _, _, h | .str _, _, _, h | .ty _, _, _, h | .fn _, _, _, h | .exn, _, _, h => h
  | .scr _, _, _, h => by
    obtain ⟨a, e, r⟩ := h
    refine ⟨a, e, r.imp (fun ⟨r, k, kx⟩ => ⟨r, fun z => k ?_, kx⟩) id⟩
    rw [hm] at z; exact List.mem_of_mem_take z
  | .ref k, _, c, h => by
    obtain ⟨a, e, q⟩ := h
    have hk : k < n := by simpa [D.cl] using c
    exact ⟨a, by rw [hm, List.getElem?_take_of_lt hk]; exact e, q⟩
  | .tup ds, _, c, h => by
    obtain ⟨a, vs, e, r, q⟩ := h
    refine ⟨a, vs, e, r.imp (fun ⟨r, k⟩ => ⟨r, fun z => k ?_⟩) id, DRels.fewer hm ds vs (by simpa [D.cl] using c) q⟩
    rw [hm] at z; exact List.mem_of_mem_take z
  | .lst ds, _, c, h => by
    obtain ⟨a, vs, e, ⟨r, k, kx⟩, q⟩ := h
    refine ⟨a, vs, e, ⟨r, fun z => k ?_, kx⟩, DRels.fewer hm ds vs (by simpa [D.cl] using c) q⟩
    rw [hm] at z; exact List.mem_of_mem_take z
theorem DRels.fewer (hm : m = m1.take n) : ∀ (ds : List D) (vs : List V), clAll n ds = true → DRels g m1 x H ds vs → DRels g m x H ds vs
  | [], _, _, h => h
  | d :: ds, _, c, h => by
    obtain ⟨v, r, e, h1, h2⟩ := h
    simp only [clAll, Bool.and_eq_true] at c
    exact ⟨v, r, e, DRel.fewer hm d v c.1 h1, DRels.fewer hm ds r c.2 h2⟩
end
mutual
theorem DRel.closed : ∀ (d : D) (v : V), DRel g m x H d v → d.cl m.length = true
  | .non, _, _ | .bl _, _, _ | .int _, _, _ | .str _, _, _ | .ty _, _, _ | .fn _, _, _ => rfl
  | .exn, _, h => h.elim
  | .scr _, _, _ => rfl
  | .ref k, _, h => by
    obtain ⟨a, e, q⟩ := h
    simpa [D.cl] using (List.getElem?_eq_some_iff.mp e).1
  | .tup ds, _, h => by
    obtain ⟨a, vs, e, r, q⟩ := h
    simpa [D.cl] using DRels.closed ds vs q
  | .lst ds, _, h => by
    obtain ⟨a, vs, e, r, q⟩ := h
    simpa [D.cl] using DRels.closed ds vs q
theorem DRels.closed : ∀ (ds : List D) (vs : List V), DRels g m x H ds vs → clAll m.length ds = true
  | [], _, _ => rfl
  | d :: ds, _, h => by
    obtain ⟨v, r, e, h1, h2⟩ := h
    simp only [clAll, DRel.closed d v h1, DRels.closed ds r h2, Bool.and_self]
end
mutual
theorem pl_cl (n : Nat) : ∀ d : D, d.pl = true → d.cl n = true
  | .non, _ | .bl _, _ | .int _, _ | .str _, _ => rfl
  | .tup ds, h | .lst ds, h => by simpa [D.cl] using plAll_cl n ds (by simpa [D.pl] using h)
  | .ref _, h | .fn _, h | .ty _, h | .exn, h | .scr _, h => by simp [D.pl] at h
theorem plAll_cl (n : Nat) : ∀ ds : List D, plAll ds = true → clAll n ds = true
  | [], _ => rfl
  | d :: r, h => by
    simp only [plAll, Bool.and_eq_true] at h
    simp only [clAll, pl_cl n d h.1, plAll_cl n r h.2, Bool.and_self]
end
/-- what of the later places may be met -/
structure Sub (m1 ms : List Addr) (n : Nat) (bad : Option Nat) : Prop where
  pre : ∀ k a, k < n → m1[k]? = some a → ms[k]? = some a
  out : ∀ b, b ∉ m1 → b ∉ ms
  new : ∀ j b, n ≤ j → bad ≠ some j → m1[j]? = some b → b ∉ ms
mutual
theorem DRel.swap {ms : List Addr} {bad : Option Nat} (S : Sub m1 ms n bad) : ∀ (d : D) (v : V), d.cl n = true → DRel g m1 x H d v → DRel g ms x H d v
  | .non, _, _, h | .bl _, _, _, h | .int _, _, _, h | .str _, _, _, h | .ty _, _, _, h | .fn _, _, _, h | .exn, _, _, h => h
  | .scr _, _, _, h => by
    obtain ⟨a, e, r⟩ := h
    exact ⟨a, e, r.imp (fun ⟨r, k, kx⟩ => ⟨r, S.out a k, kx⟩) id⟩
  | .ref k, _, c, h => by
    obtain ⟨a, e, q⟩ := h
    exact ⟨a, S.pre k a (by simpa [D.cl] using c) e, q⟩
  | .tup ds, _, c, h => by
    obtain ⟨a, vs, e, r, q⟩ := h
    exact ⟨a, vs, e, r.imp (fun ⟨r, k⟩ => ⟨r, S.out a k⟩) id, DRels.swap S ds vs (by simpa [D.cl] using c) q⟩
  | .lst ds, _, c, h => by
    obtain ⟨a, vs, e, ⟨r, k, kx⟩, q⟩ := h
    exact ⟨a, vs, e, ⟨r, S.out a k, kx⟩, DRels.swap S ds vs (by simpa [D.cl] using c) q⟩
theorem DRels.swap {ms : List Addr} {bad : Option Nat} (S : Sub m1 ms n bad) : ∀ (ds : List D) (vs : List V), clAll n ds = true → DRels g m1 x H ds vs → DRels g ms x H ds vs
  | [], _, _, h => h
  | d :: ds, _, c, h => by
    obtain ⟨v, r, e, h1, h2⟩ := h
    simp only [clAll, Bool.and_eq_true] at c
    exact ⟨v, r, e, DRel.swap S d v c.1 h1, DRels.swap S ds r c.2 h2⟩
end
theorem resolve_rel {ms : List Addr} {bad : Option Nat} (S : Sub m1 ms n bad) (sr : SRel g m1 x H s1) : ∀ (f : Nat) (d d' : D) (v : V), resolve s1 n bad f d = some d' → DRel g m1 x H d v → DRel g ms x H d' v
  | 0, _, _, _, h, _ => by simp [resolve] at h
  | f + 1, d, d', v, h, r => by
    have many : ∀ (ds ds' : List D) (vs : List V), ds.mapM (resolve s1 n bad f) = some ds' → DRels g m1 x H ds vs → DRels g ms x H ds' vs := by
      intro ds
      induction ds with
      | nil => intro ds' vs h r; simp at h; subst h; exact r
      | cons d ds ih =>
        intro ds' vs h r
        obtain ⟨v, w, rfl, h1, h2⟩ := r
        rw [List.mapM_cons] at h
        cases e1 : resolve s1 n bad f d with
        | none => rw [e1] at h; simp at h
        | some d1 =>
          rw [e1] at h
          cases e2 : ds.mapM (resolve s1 n bad f) with
          | none => rw [e2] at h; simp at h
          | some ds1 =>
            rw [e2] at h
            simp at h
            subst h
            exact ⟨v, w, rfl, resolve_rel S sr f d d1 v e1 h1, ih ds1 w e2 h2⟩
    cases d with
    | ref k =>
      simp only [resolve] at h
      obtain ⟨a, hm, rfl⟩ := r
      split at h
      · rename_i hk
        cases h
        exact ⟨a, S.pre k a hk hm, rfl⟩
      · rename_i hk
        split at h
        · cases h
        · rename_i hb
          split at h
          · rename_i ds hs
            obtain ⟨ds', e, rfl⟩ := Option.map_eq_some_iff.mp h
            obtain ⟨vs, q1, q2⟩ := sr.lst_at hm hs
            exact ⟨a, vs, rfl, ⟨.inl q1, S.new k a (by omega) hb hm, fun z => sr.ap a z (List.mem_of_getElem? hm)⟩, many ds ds' vs e q2⟩
          · cases h
    | tup ds =>
      simp only [resolve] at h
      obtain ⟨ds', e, rfl⟩ := Option.map_eq_some_iff.mp h
      obtain ⟨a, vs, e1, r, q⟩ := r
      exact ⟨a, vs, e1, r.imp (fun ⟨r, k⟩ => ⟨r, S.out a k⟩) id, many ds ds' vs e q⟩
    | lst ds =>
      simp only [resolve] at h
      obtain ⟨ds', e, rfl⟩ := Option.map_eq_some_iff.mp h
      obtain ⟨a, vs, e1, ⟨r, k, kx⟩, q⟩ := r
      exact ⟨a, vs, e1, ⟨r, S.out a k, kx⟩, many ds ds' vs e q⟩
    | exn => exact r.elim
    | scr _ => simp [resolve] at h
    | _ => simp only [resolve] at h; cases h; exact r
theorem mapM_rel {ms : List Addr} {bad : Option Nat} (S : Sub m1 ms n bad) (sr : SRel g m1 x H s1) (f : Nat) {ds ds' : List D} {vs : List V} (h : ds.mapM (resolve s1 n bad f) = some ds') (r : DRels g m1 x H ds vs) : DRels g ms x H ds' vs := by
  induction ds generalizing ds' vs with
  | nil => simp at h; subst h; exact r
  | cons d ds ih =>
    obtain ⟨v, w, rfl, h1, h2⟩ := r
    rw [List.mapM_cons] at h
    cases e1 : resolve s1 n bad f d with
    | none => rw [e1] at h; simp at h
    | some d1 =>
      rw [e1] at h
      cases e2 : ds.mapM (resolve s1 n bad f) with
      | none => rw [e2] at h; simp at h
      | some ds1 =>
        rw [e2] at h
        simp at h
        subst h
        exact ⟨v, w, rfl, resolve_rel S sr f d d1 v e1 h1, ih e2 h2⟩
theorem sub_take (sr : SRel g m1 x H s1) : Sub m1 (m1.take n) n none where
  pre := fun k a hk e => by rw [List.getElem?_take_of_lt hk]; exact e
  out := fun b h z => h (List.mem_of_mem_take z)
  new := fun j b hj _ e z => by
    obtain ⟨i, hi, e2⟩ := List.mem_iff_getElem?.mp z |>.elim fun i e => (⟨i, (List.getElem?_eq_some_iff.mp e).1, e⟩ : ∃ i, ∃ _ : i < (m1.take n).length, (m1.take n)[i]? = some b)
    have hin : i < n := by rw [List.length_take] at hi; omega
    rw [List.getElem?_take_of_lt hin] at e2
    exact sr.ne e2 e (by omega) rfl
/-- behind a def: the objects that stood at its entry -/
theorem SRel.back (sr0 : SRel g m x H s) (st : Step m H m1 H1) (sr1 : SRel g m1 x H1 s1) (hb : backOk s s1 = true) : m = m1.take s.length ∧ Step m H m H1 ∧ SRel g m x H1 (s1.take s.length) := by
  have hm : m = m1.take s.length := by
    obtain ⟨t, rfl⟩ := st.pre
    rw [← sr0.len, List.take_left]
  have hb' := hb
  simp only [backOk, Bool.and_eq_true, decide_eq_true_eq, List.all_eq_true, List.mem_range] at hb'
  refine ⟨hm, ⟨List.prefix_rfl, st.keep, fun a h => .inl h⟩, ⟨?_, sr0.nd, fun i o a h1 h2 => ?_, sr1.xs, fun a ha => sr0.ap a ha⟩⟩
  · rw [List.length_take, sr0.len, Nat.min_eq_left hb'.1]
  · have hi : i < s.length := by rw [← sr0.len]; exact (List.getElem?_eq_some_iff.mp h2).1
    rw [List.getElem?_take_of_lt hi] at h1
    have h2' : m1[i]? = some a := by
      rw [hm, List.getElem?_take_of_lt hi] at h2; exact h2
    have q := sr1.obj i o a h1 h2'
    have z := hb'.2 i hi
    rw [Bool.or_eq_true, decide_eq_true_eq] at z
    unfold ORel at q ⊢
    split at q
    · rename_i ds
      obtain ⟨vs, e, r⟩ := q
      refine ⟨vs, e, DRels.fewer hm ds vs ?_ r⟩
      rcases z with z | z
      · rw [h1] at z
        obtain ⟨ws, _, r0⟩ := sr0.lst_at h2 z.symm
        have := DRels.closed _ _ r0
        rwa [sr0.len] at this
      · rw [h1] at z; exact z
    · exact q
theorem XRel.fewer (hm : m = m1.take n) {xc : Exc} {dopt : Option Addr} (hp : xc.fs.all (fun p => p.2.pl) = true) (h : XRel g m1 x H xc dopt) : XRel g m x H xc dopt := by
  rcases h with h | ⟨k, dx, fv, e, h, hn, q⟩
  · exact .inl h
  · refine .inr ⟨k, dx, fv, e, h, fun z => hn (by rw [hm] at z; exact List.mem_of_mem_take z), fun f d hf => ?_⟩
    obtain ⟨v, q1, q2⟩ := q f d hf
    refine ⟨v, q1, DRel.fewer hm d v (pl_cl n d ?_) q2⟩
    have : (f, d) ∈ xc.fs := PySem.mem_of_lookup hf
    exact List.all_eq_true.mp hp _ this
/-- the end of a def's body -/
theorem finish_ok {fresh : Bool} {Q : VK} {E : XK} {o : Out} (sr0 : SRel g m x H s) (P : Pst g (fun u d _ H => E u d H) m x [] H (DX g hot) Q (finish s fresh o)) :
    PstS g hot (fun u d _ H => E u d H) m x H { nx := fun _ H' => Q .non H', rt := Q } o := by
  have val : ∀ {d : D} {s1 : Sto}, Pst g (fun u d _ H => E u d H) m x [] H (DX g hot) Q (leave s fresh d s1) → ∀ m1 H1 v, Step m H m1 H1 → SRel g m1 x H1 s1 → DX g hot m1 x H1 d v → Q v H1 := by
    intro d s1 P m1 H1 v st sr1 dv
    unfold leave at P
    by_cases hb : backOk s s1 = true
    · rw [if_pos hb] at P
      obtain ⟨hm, st', sr'⟩ := sr0.back st sr1 hb
      by_cases hp : d.pl = true
      · rw [if_pos hp] at P
        exact P m H1 v st' sr' (.inr (DRel.fewer hm d v (pl_cl _ d hp) (dv.ne (pl_ne hp))))
      · rw [if_neg hp] at P
        cases fresh with
        | true =>
          rw [if_pos rfl] at P
          cases d with
          | ref k =>
            simp only at P
            by_cases hk : k < s.length
            · rw [if_pos hk] at P; exact P.elim
            · rw [if_neg hk] at P
              split at P
              · rename_i ds hs
                split at P
                · rename_i ds' hds
                  obtain ⟨a, hma, rfl⟩ := dv.ne (by simp)
                  obtain ⟨vs, q1, q2⟩ := sr1.lst_at hma hs
                  have hna : a ∉ m := by
                    have := (sub_take (n := s.length) sr1).new k a (by omega) (by simp) hma
                    rwa [← hm] at this
                  have S : Sub m1 (m ++ [a]) s.length (some k) := {
                    pre := fun j b hj e => by
                      rw [List.getElem?_append_left (by rw [sr0.len]; exact hj), hm, List.getElem?_take_of_lt hj]; exact e
                    out := fun b hb' z => by
                      rcases List.mem_append.mp z with z | z
                      · rw [hm] at z; exact hb' (List.mem_of_mem_take z)
                      · have : b = a := by simpa using z
                        exact hb' (this ▸ List.mem_of_getElem? hma)
                    new := fun j b hj hbad e z => by
                      rcases List.mem_append.mp z with z | z
                      · rw [hm] at z
                        exact (sub_take (n := s.length) sr1).new j b hj (by simp) e z
                      · have : b = a := by simpa using z
                        subst this
                        exact sr1.ne e hma (fun z => hbad (by rw [z])) rfl }
                  have q3 := mapM_rel S sr1 20 hds q2
                  refine P (m ++ [a]) H1 (.ref a) ⟨List.prefix_append _ _, st.keep, fun b hb' => ?_⟩ ⟨?_, ?_, fun i o b h1 h2 => ?_, sr'.xs, fun b hb' z => ?_⟩ (.inr ⟨a, ?_, rfl⟩)
                  · rcases List.mem_append.mp hb' with z | z
                    · exact .inl z
                    · have : b = a := by simpa using z
                      subst this
                      rcases st.new b (List.mem_of_getElem? hma) with z | z
                      · exact absurd z hna
                      · exact .inr z
                  · simp [sr'.len]
                  · exact List.nodup_append.mpr ⟨sr'.nd, by simp, fun b hb' c hc => by
                      have : c = a := by simpa using hc
                      rintro rfl
                      exact hna (this ▸ hb')⟩
                  · by_cases hi : i < (s1.take s.length).length
                    · rw [List.getElem?_append_left hi] at h1
                      rw [List.getElem?_append_left (by rw [sr'.len]; exact hi)] at h2
                      have q := sr'.obj i o b h1 h2
                      unfold ORel at q ⊢
                      split at q
                      · rename_i es
                        obtain ⟨us, e, r⟩ := q
                        -- the items do not know a
                        refine ⟨us, e, ?_⟩
                        have stA : Step m H1 m H1 := Step.refl _ _
                        have h2' : m1[i]? = some b := by
                          have hin : i < s.length := by rw [List.length_take] at hi; omega
                          rw [hm, List.getElem?_take_of_lt hin] at h2; exact h2
                        have h1' : s1[i]? = some (.lst es) := by
                          have hin : i < s.length := by rw [List.length_take] at hi; omega
                          rw [List.getElem?_take_of_lt hin] at h1; exact h1
                        obtain ⟨us', e', r'⟩ := sr1.lst_at h2' h1'
                        have : us' = us := by
                          rw [e] at e'; cases e'; rfl
                        subst this
                        have cl := DRels.closed _ _ r
                        rw [sr0.len] at cl
                        exact DRels.swap S es us' cl r'
                      · exact q
                    · have hi' : i = (s1.take s.length).length := by
                        have := (List.getElem?_eq_some_iff.mp h1).1
                        simp only [List.length_append, List.length_singleton] at this
                        omega
                      subst hi'
                      rw [List.getElem?_append_right (Nat.le_refl _)] at h1
                      rw [← sr'.len, List.getElem?_append_right (Nat.le_refl _)] at h2
                      simp at h1 h2
                      subst h1 h2
                      exact ⟨vs, q1, q3⟩
                  · rcases List.mem_append.mp z with z | z
                    · exact sr'.ap b hb' z
                    · have : b = a := by simpa using z
                      subst this
                      exact sr1.ap b hb' (List.mem_of_getElem? hma)
                  · rw [← sr0.len, List.getElem?_append_right (Nat.le_refl _)]; simp
                · exact P.elim
              · exact P.elim
          | _ => exact P.elim
        | false =>
          rw [if_neg (by simp)] at P
          split at P
          · rename_i d' hd
            have hne : d ≠ .exn := by
              rintro rfl
              simp [resolve] at hd
            have q := resolve_rel (sub_take (n := s.length) sr1) sr1 20 d d' v hd (dv.ne hne)
            rw [← hm] at q
            exact P m H1 v st' sr' (.inr q)
          · exact P.elim
    · rw [if_neg hb] at P; exact P.elim
  cases o with
  | nx e s1 => exact fun m1 H1 σ' st rl => val (d := .non) P m1 H1 .non st rl.sr (.inr rfl)
  | rt d s1 => exact fun m1 H1 v st sr dv => val P m1 H1 v st sr dv
  | exc e xc s1 =>
    intro m1 H1 σ' u dopt st rl hu xr
    simp only [finish, leaveX] at P
    by_cases hb : (backOk s s1 && xc.fs.all fun p => p.2.pl) = true
    · rw [if_pos hb] at P
      rw [Bool.and_eq_true] at hb
      obtain ⟨hm, st', sr'⟩ := sr0.back st rl.sr hb.1
      exact P m H1 u dopt st' sr' hu (xr.fewer hm hb.2)
    · rw [if_neg hb] at P; exact P.elim
  | bk e s1 => exact P.elim
  | ct e s1 => exact P.elim
  | stuck => exact P
end
end Pi

set_option maxRecDepth 100000
/-! Pi, part Z: all defs keep what run tells. -/
namespace Pi
open PySem PySem.Spec PyProof.Rows L2

/-- a def of the text -/
structure DefC where
  args : Arguments
  body : List Stmt
  scope : Scope
  N : List Str
  ps : List Str
  muts : List Str
  d : Def
def DefC.cc (gl : Str → Option GlK) (D : DefC) (calm : Bool) : CC := ⟨D.scope, D.N, calm, none, gl, D.muts, D.d.fresh⟩
structure DefC.Ok (gl : Str → Option GlK) (n : Nat) (D : DefC) : Prop where
  sc : FnScope D.N D.ps D.scope
  np : D.ps.length = D.d.params
  ns : D.N.length = D.d.slots
  body : compSs (compS n (D.cc gl true)) D.body = some D.d.body
  hot : D.d.hot = true → compSs (compS n (D.cc gl false)) D.body = some D.d.body
/-- what the law's module tells -/
structure LawOk (K : PySem.W.Frag) (mg : Str → Option Value) (cfg : Cfg) (gl : Str → Option GlK) (n : Nat) : Prop where
  glo : GlOk ⟨K, mg⟩ gl
  sub : SubOk ⟨K, mg⟩ cfg.sub
  exc : ∀ x m xc, gl x = some .exc → cfg.mkx x [.str m] = some xc → (∃ (C : Addr) (B newId initId : String) (bmB : List Value), ExcBaseFacts B newId initId bmB ∧ PySem.W.excIn K C bmB newId = true ∧ mg x = some (.ref C) ∧ PySem.W.keepIn K (.ref C) = true ∧
    PySem.W.subIn K (.ref C) (.type "BaseException") = some true ∧ PySem.W.typeIn K (.ref C) = some (.type "type")) ∧ xc.cls = x ∧ xc.fs = []
  defs : ∀ x f, gl x = some .fn → mg x = some (.ref f) → ∃ (D : DefC) (fd : FuncData), cfg.get x = some D.d ∧ D.Ok gl n ∧ FunD K x x D.args D.body D.scope [] [] f fd ∧ Binds K fd D.ps []
/-- the handled exception, in both tellings -/
def HotM (g : Gn) (hd : Option (Addr × PySem.Obj)) (hot : Option HotI) : Prop :=
  (hd = none ∧ hot = none) ∨ ∃ p hi, hd = some p ∧ hot = some hi ∧ hi.a = p.1 ∧ ∃ C, g.mg hi.xc.cls = some (.ref C) ∧ Zc (.ref C) hi.dx p.2 ∧ ∃ vs, p.2.data = .fields vs
def spP (g : Gn) (hot : Option HotI) (n : Nat) (fn : List D → Sto → Res D) : Sp := fun vs H Q E => vs.length = n ∧ ∃ m x s ds, SRel g m x H s ∧ DXs g hot m x H ds vs ∧ Pst g (fun u d _ H => E u d H) m x [] H (DX g hot) Q (fn ds s)
def Tab (P : Program) (w : World) (K : PySem.W.Frag) (mg : Str → Option Value) (base : Heap) (cfg : Cfg) (gl : Str → Option GlK) (k : Nat) : Prop :=
  ∀ x f, gl x = some .fn → mg x = some (.ref f) → ∃ fd ps, Binds K fd ps [] ∧ (∀ hd ds s, run cfg k hd x ds s = .stuck ∨ ds.length = ps.length) ∧
    ∀ hd hot, HotM ⟨K, mg⟩ hd hot → FnP P w K mg base k f fd ps hd (spP ⟨K, mg⟩ hot ps.length fun ds s => run cfg k (hot.map (·.xc)) x ds s)
section
variable {P : Program} {w : World} {K : PySem.W.Frag} {mg : Str → Option Value} {base : Heap} {cfg : Cfg} {gl : Str → Option GlK} {k n : Nat}
theorem Pst.move {g : Gn} {hot : Option HotI} {W W' : WX} {m x : List Addr} {σ σ' : L2.St} {H : Hp} {Q : VK} {r : Res D} (P : Pst g W m x σ H (DX g hot) Q r) (h : ∀ u d H, W u d σ H → W' u d σ' H) : Pst g W' m x σ' H (DX g hot) Q r := by
  cases r with
  | ok d s => exact P
  | exc xc s => exact fun m' H' u d st sr hm xr => h _ _ _ (P m' H' u d st sr hm xr)
  | stuck => exact P
theorem callP_of (T : Tab P w K mg base cfg gl k) {X : L2.Cx} {W : WX} {hd : Option (Addr × PySem.Obj)} {hot : Option HotI} (e1 : X.prog = P) (e2 : X.w = w) (e3 : X.K = K) (e4 : X.mg = mg) (e5 : X.base = base) (hr : RoomP k X.A) (hm : HotM ⟨K, mg⟩ hd hot)
    (hA : ∀ {pins σ H s}, Inv X pins σ H s → HotA X.A hd) (hp : ∀ p, hd = some p → p ∈ X.pn) (ps : Pas X W) {x : Str} {f : Addr} (h1 : gl x = some .fn) (h2 : mg x = some (.ref f)) :
    CallP X ⟨K, mg⟩ hot W f (fun ds s => run cfg k (hot.map (·.xc)) x ds s) := by
  subst e1 e2 e3 e4 e5
  obtain ⟨fd, prs, hb, argc, F⟩ := T x f h1 h2
  have F := F hd hot hm
  intro pins sh σ H m xx e s ds vs us Q I rl dr r P
  have P : Pst ⟨X.K, X.mg⟩ W m xx σ H (DX ⟨X.K, X.mg⟩ hot) Q (run cfg k (hot.map (·.xc)) x ds s) := P
  have hl : ds.length = prs.length := by
    rcases argc (hot.map (·.xc)) ds s with z | z
    · rw [z] at P; exact P.elim
    · exact z
  have hvl : vs.length = prs.length := by rw [← dr.length, hl]
  have b := hb sh us I.kIn (by rw [List.append_nil, ← r.length, hvl])
  rw [List.append_nil] at b
  have pin : PinA X.stack H sh hd := fun p hpe => by
    have P1 := I.pin p (List.mem_append_left _ (hp p hpe))
    exact ⟨P1.1, P1.2.1, fun hm => (List.mem_cons.mp (I.stkSub p.1 hm)).elim P1.2.2.1 P1.2.2.2.1, P1.2.2.2.2⟩
  refine wpAny_call (codeAny_mono (F.run X.A X.stack sh H ⟨us, []⟩ us vs Q (fun c d H => W c d σ H) hr (hA I) pin I.env0 b r ⟨hvl, m, xx, s, ds, rl.sr, dr, P.move fun _ _ _ h => h⟩) fun r s' hq => ?_)
  cases r with
  | error e => exact ps σ pins H sh e s' I hq
  | ok fl =>
    cases fl with
    | ret u => exact I.after hq
    | next => exact False.elim hq
    | brk => exact False.elim hq
    | cont => exact False.elim hq
theorem start_rel {g : Gn} {hot : Option HotI} {m x : List Addr} {H : Hp} {ds : List D} {vs : List V} {N : List Str} {d : Def} (h : DXs g hot m x H ds vs) (h1 : ds.length = d.params) (h2 : N.length = d.slots) (h3 : d.params ≤ d.slots) : ERel g hot m x H (startE d ds) (L2.start N vs) := by
  have hl := h.length
  refine ⟨by unfold startE L2.start; simp; omega, fun i e q => ?_⟩
  unfold startE at q
  unfold L2.start
  by_cases hi : i < ds.length
  · rw [List.getElem?_append_left (by simpa using hi), List.getElem?_map] at q
    rw [List.getElem?_append_left (by simpa [← hl] using hi), List.getElem?_map]
    have get : ∀ {ds : List D} {vs : List V} {i : Nat} {e : D}, DXs g hot m x H ds vs → ds[i]? = some e → ∃ v, vs[i]? = some v ∧ DX g hot m x H e v := by
      intro ds
      induction ds with
      | nil => intro vs i e _ q; simp at q
      | cons d ds ih =>
        intro vs i e h q
        obtain ⟨v, r, rfl, h1, h2⟩ := h
        cases i with
        | zero => simp at q; subst q; exact ⟨v, rfl, h1⟩
        | succ i => simpa using ih h2 (by simpa using q)
    cases e1 : ds[i]? with
    | none => rw [e1] at q; cases q
    | some d0 =>
      rw [e1] at q
      cases q
      obtain ⟨v, q1, q2⟩ := get h e1
      exact ⟨v, by rw [q1]; rfl, q2⟩
  · rw [List.getElem?_append_right (by simpa using hi), List.getElem?_replicate] at q
    split at q <;> cases q
theorem RoomP.u64 {A : Around} (r : RoomP k A) : A.units + 64 < cLine := by have := r.un; omega
theorem tab_next (L : LawOk K mg cfg gl n) (T : Tab P w K mg base cfg gl k) : Tab P w K mg base cfg gl (k + 1) := by
  intro x f h1 h2
  obtain ⟨D, fd, hget, ok, F, hb⟩ := L.defs x f h1 h2
  refine ⟨fd, D.ps, hb, fun hd ds s => ?_, fun hd hot hm => ?_⟩
  · simp only [run, hget]
    by_cases hc : ds.length = D.d.params ∧ D.d.params ≤ D.d.slots ∧ (hd = none ∨ D.d.hot = true)
    · exact .inr (by rw [hc.1, ok.np])
    · exact .inl (if_neg hc)
  obtain ⟨oc, od, dV, kV, doc, pm, an, cdv, ct, osl, rfl, lk, hcd, _, _⟩ := F.ex
  refine fn_ofP lk hcd ok.sc (fun vs H Q E h => h.1) fun A outer s H vs Q E hA hr hsp => ?_
  obtain ⟨hvl, m, xx, st, ds, sr, dr, Pq⟩ := hsp
  simp only [run, hget] at Pq
  by_cases hc : ds.length = D.d.params ∧ D.d.params ≤ D.d.slots ∧ (hot.map (·.xc) = none ∨ D.d.hot = true)
  · rw [if_pos hc] at Pq
    have rd : rdS ⟨K, mg⟩ hot (fun u d _ H => E u d H) (exSs (cfg.ct (run cfg k) (hot.map (·.xc))) D.d.body) { nx := fun _ H' => Q .non H', rt := Q } (L2.start D.N vs) H :=
      ⟨m, xx, startE D.d ds, st, ⟨start_rel dr hc.1 ok.ns hc.2.1, sr⟩, finish_ok sr Pq⟩
    refine ⟨_, ?_, rd⟩
    rcases hm with ⟨rfl, rfl⟩ | ⟨p, hi, rfl, rfl, ha, C, hC, hz, hfd⟩
    · have tk : L2N.Takes (cxOf (L2N.CX P w) P w K mg base D.N x D.scope f cdv A outer s H E) (fun u d _ H => E u d H) := L2N.takes_of rfl rfl rfl rfl
      have base_cc : CcOk (cxOf (L2N.CX P w) P w K mg base D.N x D.scope f cdv A outer s H E) ⟨K, mg⟩ none (fun u d _ H => E u d H) (D.cc gl true) (cfg.ct (run cfg k) none) := {
        hK := rfl
        mg := rfl
        N := rfl
        nd := ok.sc.nd
        kind := ok.sc.kind
        sc := rfl
        un := hr.u64
        gu := hr.gu
        calm := fun _ => ⟨rfl, rfl⟩
        hd := rfl
        sub := L.sub
        ho := fun p hp => by cases hp
        fn := fun _ => rfl
        gl := L.glo
        pas := fun σ => L2N.passAt tk σ
        call := fun X' W' sb hp hcl ps g a q1 q2 => callP_of T sb.prog sb.w sb.K sb.mg sb.base (by rw [sb.A]; exact hr) (.inl ⟨rfl, rfl⟩) (fun I => I.ok.hd (hcl rfl)) (fun p hp => by cases hp) ps q1 q2 }
      have so : StOk (cxOf (L2N.CX P w) P w K mg base D.N x D.scope f cdv A outer s H E) ⟨K, mg⟩ none (fun u d _ H => E u d H) (D.cc gl true) (cfg.ct (run cfg k) none) := {
        c := base_cc
        own := PassesOwn.leaving
        tk := fun _ => tk
        stk := rfl
        frm := rfl
        blk := rfl
        exc := fun y mm xc q1 q2 => by
          obtain ⟨⟨C, B, newId, initId, bmB, z1, z2, z3, z4, z5, z6⟩, z7⟩ := L.exc y mm xc q1 q2
          exact ⟨⟨C, B, newId, initId, bmB, z1, z2, z3, z4, raises_own z5 z6⟩, z7⟩
        suite := fun _ a oe cls d pn xc q1 qC q2 q3 => {
          hK := rfl
          mg := rfl
          N := rfl
          nd := ok.sc.nd
          kind := ok.sc.kind
          sc := rfl
          un := hr.u64
          gu := hr.gu
          calm := fun z => by cases z
          hd := rfl
          sub := L.sub
          ho := fun p hp => by
            cases hp
            obtain ⟨C, rfl⟩ := qC
            exact ⟨oe, C, List.mem_cons_self, q1, q2.zc, q3⟩
          fn := fun _ => rfl
          gl := L.glo
          pas := pas_noW
          call := fun X' W' sb hp hcl ps g a' z1 z2 => by
            obtain ⟨C, rfl⟩ := qC
            refine callP_of (hd := some (a, oe)) T sb.prog sb.w sb.K sb.mg sb.base (by rw [sb.A]; exact ⟨hr.dp, hr.un, hr.gu⟩) (.inr ⟨(a, oe), ⟨a, xc, d⟩, rfl, rfl, rfl, C, q1, q2.zc, q3⟩) (fun I => ?_) (fun p hpe => ?_) ps z1 z2
            · rw [sb.A]
              obtain ⟨vs', hv⟩ := q3
              exact ⟨rfl, vs', hv, q2.2.2 vs' hv⟩
            · cases hpe
              rcases hp with hp | hp
              · cases hp
              · rw [hp]; exact List.mem_cons_self } }
      exact compSs_ok (fun st s h => compS_ok n so h) ok.body
    · have tk : L2N.Takes (L2H.cxH (L2N.CX P w) P w K mg base D.N x D.scope f cdv A outer s H E p) (fun u d _ H => E u d H) := L2N.takes_of rfl rfl rfl rfl
      have hothot : D.d.hot = true := by
        rcases hc.2.2 with z | z
        · cases z
        · exact z
      have base_cc : CcOk (L2H.cxH (L2N.CX P w) P w K mg base D.N x D.scope f cdv A outer s H E p) ⟨K, mg⟩ (some hi) (fun u d _ H => E u d H) (D.cc gl false) (cfg.ct (run cfg k) (some hi.xc)) := {
        hK := rfl
        mg := rfl
        N := rfl
        nd := ok.sc.nd
        kind := ok.sc.kind
        sc := rfl
        un := hr.u64
        gu := hr.gu
        calm := fun z => by cases z
        hd := rfl
        sub := L.sub
        ho := fun q hq => by
          cases hq
          refine ⟨p.2, C, ?_, hC, hz, hfd⟩
          rw [ha]
          exact List.mem_cons_self
        fn := fun _ => rfl
        gl := L.glo
        pas := fun σ => L2N.passAt tk σ
        call := fun X' W' sb hp hcl ps g a q1 q2 => callP_of (hd := some p) T sb.prog sb.w sb.K sb.mg sb.base (by rw [sb.A]; exact hr) (.inr ⟨p, hi, rfl, rfl, ha, C, hC, hz, hfd⟩) (fun I => by rw [sb.A]; exact hA) (fun q hq => by
          cases hq
          rcases hp with hp | hp
          · cases hp
          · rw [hp]; exact List.mem_cons_self) ps q1 q2 }
      have so : StOk (L2H.cxH (L2N.CX P w) P w K mg base D.N x D.scope f cdv A outer s H E p) ⟨K, mg⟩ (some hi) (fun u d _ H => E u d H) (D.cc gl false) (cfg.ct (run cfg k) (some hi.xc)) := {
        c := base_cc
        own := PassesOwn.leaving
        tk := fun z => by cases z
        stk := rfl
        frm := rfl
        blk := rfl
        exc := fun y mm xc q1 q2 => by
          obtain ⟨⟨C, B, newId, initId, bmB, z1, z2, z3, z4, z5, z6⟩, z7⟩ := L.exc y mm xc q1 q2
          exact ⟨⟨C, B, newId, initId, bmB, z1, z2, z3, z4, raises_own z5 z6⟩, z7⟩
        suite := fun z => by cases z }
      exact compSs_ok (fun st s h => compS_ok n so h) (ok.hot hothot)
  · rw [if_neg hc] at Pq
    exact Pq.elim
theorem tab_zero (L : LawOk K mg cfg gl n) : Tab P w K mg base cfg gl 0 := by
  intro x f h1 h2
  obtain ⟨D, fd, hget, ok, F, hb⟩ := L.defs x f h1 h2
  refine ⟨fd, D.ps, hb, fun hd ds s => .inl rfl, fun hd hot hm => ⟨fun vs H Q E h => h.1, fun A outer s H args us vs Q E hr hot hpin e0 hb r hsp => ?_⟩⟩
  obtain ⟨_, m, x, st, ds, sr, dr, Pq⟩ := hsp
  exact Pq.elim
theorem tab_all (L : LawOk K mg cfg gl n) : ∀ k, Tab P w K mg base cfg gl k
  | 0 => tab_zero L
  | k + 1 => tab_next L (tab_all L k)
end
end Pi

set_option maxRecDepth 100000
/-! Pi, the end of a law: the call behind the top. -/
namespace Pi
open PySem PySem.Spec PyProof.Rows L2

section
variable {P : Program} {w : World} {K : PySem.W.Frag} {mg mb : Str → Option Value} {cfg : Cfg} {gl : Str → Option GlK} {n k : Nat} {fa a : Addr} {name : Str} {s₁ : Shared} {vs : List Value} {is : List Int}
/-- the law's def, from a state in which at most the script is tracked -/
theorem end_from (KX : K.In s₁.heap) (hns : s₁.heap.Ns mainGlobals mg) (hb : s₁.heap.Ns builtinsNs mb) (hbb : ∀ x : Str, x ≠ "__name__" → mb x = bootBuiltins x) (hlim : s₁.heap.NoLimit) (hg : s₁.gens = #[])
    (ha : s₁.heap.get? a = some { cls := .type "list", data := .seq vs.toArray }) (hr : RoomP k callerA) (L : LawOk K mg cfg gl n) (h1 : gl name = some .fn) (h2 : mg name = some (.ref fa))
    (hrun : run cfg k none name [.scr is] [] = .ok (.bl true) []) {H : Hp} (hO : Only H) (hA : ∀ b, H b ≠ none → b = a) (hK : H a ≠ none → K.lookup a = none) (hS : Rd H a (.lst (is.map .int)) ∨ KLst K a (is.map .int)) (hok : HOk P w H s₁.heap) :
    codeAny (model P w) callerA (.call (.ref fa) ⟨[.ref a], []⟩) (fun r s' => r = .ok (.ret (.bool true)) ∧ OldK s₁.heap s'.heap ∧ s'.os = s₁.os ∧ AllBare s'.gens) s₁ := by
  -- what is not the script is of the base
  have here : ∀ {b : Addr} {o : PySem.Obj}, s₁.heap.get? b = some o → (b = a → H a = none) → (hidT s₁.heap H).get? b = some o := fun {b o} e h => hidT_get e (by
    by_cases z : H b = none
    · exact z
    · have e2 := hA b z
      rw [e2] at z
      exact absurd (h e2) z)
  have names : ∀ {b : Addr} {m : Str → Option Value}, s₁.heap.Ns b m → (hidT s₁.heap H).Ns b m := fun {b m} ⟨o, es, ep, e, d, r⟩ => ⟨o, es, ep, here e (fun z => by
    subst z
    rw [ha] at e; cases e
    cases d), d, r⟩
  have hKb : K.In (hidT s₁.heap H) := fun b o e => here (KX b o e) fun z => by
    subst z
    refine Classical.byContradiction fun q => ?_
    rw [hK q] at e; cases e
  have e0 : Env0 P w K mg (hidT s₁.heap H) callerA [] s₁ H :=
    ⟨rfl, ⟨hKb, names hns, ⟨mb, names hb, hbb⟩, let ⟨mc, q1, q2⟩ := hlim; ⟨mc, names q1, q2⟩⟩, fun b o e => of_hidT e, Nat.le_of_eq (hidT_size _ _), trivial, fun b hb => (by cases hb), hok, .of_eq hg⟩
  obtain ⟨fd, ps, bind, argc, F⟩ := tab_all (P := P) (w := w) (base := hidT s₁.heap H) L k name fa h1 h2
  have F := F none none (.inl ⟨rfl, rfl⟩)
  have hps : ps.length = 1 := by
    rcases argc none [.scr is] [] with z | z
    · rw [hrun] at z; cases z
    · exact z.symm
  have b := bind s₁ [.ref a] KX (by simpa using hps.symm)
  rw [List.append_nil] at b
  refine codeAny_mono (F.run callerA [] s₁ H ⟨[.ref a], []⟩ [.ref a] [.ref a] (fun v _ => v = .bl true) (fun _ _ _ => False) hr rfl (fun p hp => by cases hp) e0 b (.cons rfl .nil)
    ⟨by simpa using hps.symm, [], [], [], [.scr is], ⟨rfl, List.nodup_nil, fun i o a h => (by simp at h), fun a h => (by cases h), fun a h => (by cases h)⟩,
      ⟨.ref a, [], rfl, .inr ⟨a, rfl, hS.imp (fun r => ⟨r, by simp, by simp⟩) id⟩, rfl⟩, ?_⟩) fun r s' h => ?_
  · show Pst _ _ [] [] [] H _ _ (run cfg k none name [.scr is] [])
    rw [hrun]
    exact fun m' H' v _ _ dv => dv.bl
  · cases r with
    | error e =>
      obtain ⟨_, _, _, _, _, _, _, _, _, _, _, _, z⟩ := h
      exact z.elim
    | ok fl =>
      cases fl with
      | ret u =>
        obtain ⟨v, H', os, bare, un, hok', r', q⟩ := h
        have q : v = .bl true := q
        subst q
        obtain rfl : u = Value.bool true := r'
        refine ⟨rfl, OldK.of_keep fun b o e => ?_, os, bare⟩
        cases q : H b with
        | none => exact un.keep b o e q (by intro z; cases z) (by simp)
        | some u =>
          obtain ⟨ob, xs, z⟩ := (hO b).resolve_left (by rw [q]; simp)
          have k1 := (hok b _ z).1
          rw [e] at k1; cases k1
          exact (hok' b _ (un.frzs b _ _ z)).1
      | _ => exact False.elim h
theorem law_end (KX : K.In s₁.heap) (hns : s₁.heap.Ns mainGlobals mg) (hb : s₁.heap.Ns builtinsNs mb) (hbb : ∀ x : Str, x ≠ "__name__" → mb x = bootBuiltins x) (hlim : s₁.heap.NoLimit) (hg : s₁.gens = #[])
    (ha : s₁.heap.get? a = some { cls := .type "list", data := .seq vs.toArray }) (hi : IntsAre vs is) (hl : is.length ≤ sizeLine) (hr : RoomP k callerA) (L : LawOk K mg cfg gl n) (h1 : gl name = some .fn) (h2 : mg name = some (.ref fa))
    (hrun : run cfg k none name [.scr is] [] = .ok (.bl true) []) :
    codeAny (model P w) callerA (.call (.ref fa) ⟨[.ref a], []⟩) (fun r s' => r = .ok (.ret (.bool true)) ∧ OldK s₁.heap s'.heap ∧ s'.os = s₁.os ∧ AllBare s'.gens) s₁ := by
  have rv := vals_ints hi
  have hlen := hi.length
  cases hk : K.lookup a with
  | some o =>
    have e := KX a o hk
    rw [ha] at e; cases e
    exact end_from KX hns hb hbb hlim hg ha hr L h1 h2 hrun (H := fun _ => none) (fun _ => .inl rfl) (fun b z => absurd rfl z) (fun z => absurd rfl z) (.inr ⟨_, vs.toArray, _, hk, rfl, rfl, rfl, by rw [List.size_toArray, hlen]; exact hl, by simpa using rv⟩) (fun b u z => by cases z)
  | none =>
    have at_ : (fun b => if b = a then some (HO.frz { cls := .type "list", data := .seq vs.toArray } (.lst (is.map .int))) else none : Hp) a = some (.frz { cls := .type "list", data := .seq vs.toArray } (.lst (is.map .int))) := if_pos rfl
    have off : ∀ b, b ≠ a → (fun b => if b = a then some (HO.frz { cls := .type "list", data := .seq vs.toArray } (.lst (is.map .int))) else none : Hp) b = none := fun b hb => if_neg hb
    refine end_from KX hns hb hbb hlim hg ha hr L h1 h2 hrun (H := fun b => if b = a then some (.frz { cls := .type "list", data := .seq vs.toArray } (.lst (is.map .int))) else none) (fun b => ?_) (fun b z => ?_) (fun _ => hk) (.inl (.inr ⟨_, at_⟩)) fun b u z => ?_
    · by_cases hb : b = a
      · subst hb; exact .inr ⟨_, _, at_⟩
      · exact .inl (off b hb)
    · exact Classical.byContradiction fun hb => z (off b hb)
    · by_cases hb : b = a
      · subst hb
        rw [at_] at z; cases z
        exact ⟨ha, by rw [List.length_map]; exact hl, vs, _, rv, ha⟩
      · rw [off b hb] at z; cases z
end
/-- a law's end over a head by facts -/
theorem walk_ofP {l : PySem.W.OpenLaw} {n k : Nat} {q : Program} {loose : List Str} {XP : (Str → Option Value) → Heap → Prop} {YP : World → Heap → Prop} {d : DefRec} {cfg : Cfg} {gl : Str → Option GlK} {nn : Nat}
    (hn : l.most = some n) (hn2 : n ≤ sizeLine) (hdf : d.params.defaults = []) (hr : RoomP k callerA) (h1 : gl d.name = some .fn)
    (F : ∀ (w : World) (mg : Str → Option Value) (fa : Addr) (h : Heap), YP w h → h.Ns mainGlobals mg → mg d.name = some (.ref fa) → ∃ K : PySem.W.Frag, K.In h ∧ LawOk K mg cfg gl nn)
    (hrun : ∀ is : List Int, is.length ≤ n → run cfg k none d.name [.scr is] [] = .ok (.bl true) []) :
    PySem.W.WalkO q loose XP YP l.row.toRowW d [] (fun f vs => PySem.call f vs) := by
  refine Att.attach_call hn hdf fun w s₀ s₁ mg mb fa o pm cd doc a vs ns G Y ho hd hcd hmg hobj hints hlen hg => ?_
  obtain ⟨K, KX, L⟩ := F w mg fa _ Y G.T.g hmg
  exact law_end KX G.T.g G.T.b G.T.builtins G.T.nolimit hg hobj hints (Nat.le_trans hlen hn2) hr L h1 hmg (hrun ns hlen)
end Pi

set_option maxRecDepth 100000
/-! Pi, the head: what a law's module tells, by names. -/
namespace Pi
open PySem PySem.Spec PyProof.Rows L2 He

structure LawD where
  defs : List (Str × DefC)
  consts : List (Str × D)
  excs : List Str
  /-- classes that are only asked for -/
  clss : List Str
  frees : List Str
  subs : List ((Str × Str) × Bool)
def LawD.gl (L : LawD) (x : Str) : Option GlK := match L.defs.lookup x with
  | some _ => some .fn
  | none => match L.consts.lookup x with
    | some d => some (.val d)
    | none => if x ∈ L.excs ∨ x ∈ L.clss then some .exc else if x ∈ L.frees then some .free else none
def LawD.mkx (L : LawD) (x : Str) (ds : List D) : Option Exc := match ds with
  | [.str _] => if x ∈ L.excs then some ⟨x, []⟩ else none
  | _ => none
def LawD.sub (L : LawD) (a b : Str) : Option Bool := L.subs.lookup (a, b)
def LawD.cfg (L : LawD) (fuel : Nat) : Cfg := ⟨L.defs.map (·.2.d), L.mkx, L.sub, fuel⟩
def DefC.at_ (x : Str) (D : DefC) : DefD := ⟨(x, none), x, x, D.args, D.body, D.scope, [], []⟩
def LawD.fn (L : LawD) : List DefD := L.defs.map fun p => p.2.at_ p.1
def LawD.fa (L : LawD) : List Fa := L.defs.map (fun p => .glo p.1) ++ (L.excs ++ L.clss).map .glo ++ L.excs.map .exc ++ L.frees.map .free ++ L.subs.map fun p => .exm p.1.1 p.1.2 p.2
/-! ### constants, classes -/
mutual
def conB (K : PySem.W.Frag) : D → Value → Bool
  | .non, .none => true
  | .bl b, .bool c => b == c
  | .int i, .int j _ => decide (i = j)
  | .str x, .str y _ => decide (x = y)
  | .tup ds, .ref a => match K.lookup a with
    | some ⟨.type c, _, .seq its _, _⟩ => decide (c = "tuple") && decide (its.size ≤ sizeLine) && conBs K ds its.toList
    | _ => false
  | _, _ => false
def conBs (K : PySem.W.Frag) : List D → List Value → Bool
  | [], [] => true
  | d :: ds, u :: us => conB K d u && conBs K ds us
  | _, _ => false
end
mutual
theorem conB_rel {K : PySem.W.Frag} {mg : Str → Option Value} : ∀ (d : D) (u : Value), conB K d u = true → ∃ v, RelV v u ∧ ∀ m x H, DRel ⟨K, mg⟩ m x H d v
  | .non, u, h => by cases u <;> first | exact ⟨.non, rfl, fun _ _ _ => rfl⟩ | cases h
  | .bl b, u, h => by
    cases u <;> first | (simp only [conB, beq_iff_eq] at h; subst h; exact ⟨.bl _, rfl, fun _ _ _ => rfl⟩) | cases h
  | .int i, u, h => by
    cases u <;> first | (simp only [conB, decide_eq_true_eq] at h; subst h; exact ⟨.int _, ⟨_, rfl⟩, fun _ _ _ => rfl⟩) | cases h
  | .str i, u, h => by
    cases u <;> first | (simp only [conB, decide_eq_true_eq] at h; subst h; exact ⟨.str _, ⟨_, rfl⟩, fun _ _ _ => rfl⟩) | cases h
  | .tup ds, u, h => by
    cases u with
    | ref a =>
      simp only [conB] at h
      split at h
      · rename_i c od its n sl hk
        simp only [Bool.and_eq_true, decide_eq_true_eq] at h
        obtain ⟨⟨rfl, hz⟩, hs⟩ := h
        obtain ⟨vs, r, q⟩ := conBs_rel ds its.toList hs
        exact ⟨.ref a, rfl, fun m x H => ⟨a, vs, rfl, .inr ⟨_, its, n, hk, rfl, rfl, hz, r⟩, q m x H⟩⟩
      · cases h
    | _ => cases h
  | .lst _, u, h => by cases u <;> cases h
  | .ref _, u, h => by cases u <;> cases h
  | .fn _, u, h => by cases u <;> cases h
  | .ty _, u, h => by cases u <;> cases h
  | .exn, u, h => by cases u <;> cases h
  | .scr _, u, h => by cases u <;> cases h
theorem conBs_rel {K : PySem.W.Frag} {mg : Str → Option Value} : ∀ (ds : List D) (us : List Value), conBs K ds us = true → ∃ vs, Vals vs us ∧ ∀ m x H, DRels ⟨K, mg⟩ m x H ds vs
  | [], [], _ => ⟨[], .nil, fun _ _ _ => rfl⟩
  | d :: ds, u :: us, h => by
    simp only [conBs, Bool.and_eq_true] at h
    obtain ⟨v, r, q⟩ := conB_rel d u h.1
    obtain ⟨vs, rs, qs⟩ := conBs_rel ds us h.2
    exact ⟨v :: vs, .cons r rs, fun m x H => ⟨v, vs, rfl, q m x H, qs m x H⟩⟩
  | [], _ :: _, h => by cases h
  | _ :: _, [], h => by cases h
end
def exB (K : PySem.W.Frag) (x : Str) : Bool :=
  eqO (PySem.W.findIn K (.ref (ga K x)) "__getattribute__") (some (some (.builtin "BaseException.__getattribute__"))) && (eqO (PySem.W.findIn K (.ref (ga K x)) "__getattr__") (some none) && (PySem.W.hasDictIn K (ga K x) &&
    (eqO (PySem.W.findIn K (.ref (ga K x)) "__class__") (some (some (.builtin "object.__class__"))) && (eqO (PySem.W.specialIn K (.builtin "object.__class__") "__get__") (some (some (.builtin "getset_descriptor.__get__"))) &&
      (decide (PySem.W.takesIn K (.builtin "object.__class__") = some true) && decide (PySem.W.mroIn K (ga K x) (.type "object") = some true))))))
theorem exB_ok {K : PySem.W.Frag} {x : Str} (h : exB K x = true) (e : (Fa.exc x).ok K = true) : ExcC K (ga K x) := by
  obtain ⟨h1, h⟩ := ba h
  obtain ⟨h2, h⟩ := ba h
  obtain ⟨h3, h⟩ := ba h
  obtain ⟨h4, h⟩ := ba h
  obtain ⟨h5, h⟩ := ba h
  obtain ⟨h6, h7⟩ := ba h
  exact ⟨eqO_ok h1, eqO_ok h2, (exc_ok e).2.2.1, h3, eqO_ok h4, eqO_ok h5, of_decide_eq_true h6, of_decide_eq_true h7⟩
def LawD.ex (L : LawD) (K : PySem.W.Frag) : Bool := (L.consts.all fun p => match PySem.W.nsIn K mainGlobals p.1 with
    | some (some u) => conB K p.2 u
    | _ => false) && ((L.excs.all fun x => exB K x) && L.subs.all fun p => decide (PySem.W.kitOne K (.ref (ga K p.1.1)) (.ref (ga K p.1.2)) = some p.2))
/-! ### the hook -/
def obsP (fa : List Fa) (fn : List DefD) (ex : PySem.W.Frag → Bool) (K : PySem.W.Frag) : AlD := ((obsD fa fn K).1 && ex K, (obsD fa fn K).2)
def obsPG (n : Nat) (fa : List Fa) (fn : List DefD) (ex : PySem.W.Frag → Bool) (g : Addr → Option PySem.Obj) : AlD := obsP fa fn ex (frG g (asD g n))
def hookP (n : Nat) (fa : List Fa) (fn : List DefD) (ex : PySem.W.Frag → Bool) : PySem.W.Hook where
  α := AlD
  obs := fun s => obsPG n fa fn ex s.heap.get?
  val := fun _ => valD fn
  says := fun _ h => ∃ K : PySem.W.Frag, K.In h ∧ SaysD fa fn K ∧ ex K = true
  of := fun _ s e => by
    have e1 : ((obsD fa fn (frG s.heap.get? (asD s.heap.get? n))).1 && ex (frG s.heap.get? (asD s.heap.get? n))) = true := congrArg (fun z : AlD => z.1) e
    have e2 : (obsD fa fn (frG s.heap.get? (asD s.heap.get? n))).2 = fn.map DefD.val := congrArg (fun z : AlD => z.2) e
    obtain ⟨q1, q2⟩ := ba e1
    exact ⟨_, frG_in, Prod.ext q1 e2, q2⟩
  keeps := fun _ _ _ ⟨K, hK, c⟩ k => ⟨K, PySem.W.Frag.In.keeps hK k, c⟩
theorem obsPG_eq {n : Nat} {fa : List Fa} {fn : List DefD} {ex : PySem.W.Frag → Bool} {g : Addr → Option PySem.Obj} {s : Shared} (h : ∀ a, g a = s.heap.get? a) : obsPG n fa fn ex g = (hookP n fa fn ex).obs s := by
  have e : g = s.heap.get? := funext h
  rw [e] <;> rfl
/-! ### what is so told -/
def BindOk (x : Str) (D : DefC) : Prop := ∀ (kV doc pm : Value) (an : Option Addr) (cdv ct : Value) (us : List Value), us.length = D.ps.length → bindArgs (PySem.W.fnOf x x D.args D.body D.scope .none kV doc pm an cdv ct) ⟨us, []⟩ = pure (D.ps.zip us)
structure LawD.Wf (L : LawD) (n : Nat) : Prop where
  defs : ∀ p ∈ L.defs, p.2.d.name = p.1 ∧ p.2.Ok L.gl n ∧ BindOk p.1 p.2
  subs : ∀ p ∈ L.subs, p.1.1 ∈ L.excs ∧ p.1.2 ∈ L.excs ++ L.clss
theorem mem_look {α β : Type} [BEq α] [LawfulBEq α] {l : List (α × β)} {a : α} {b : β} (h : l.lookup a = some b) : (a, b) ∈ l := by
  induction l with
  | nil => cases h
  | cons p l ih =>
    obtain ⟨c, d⟩ := p
    rw [List.lookup_cons] at h
    split at h
    · rename_i e
      cases h
      rw [eq_of_beq e]
      exact List.mem_cons_self
    · exact List.mem_cons_of_mem _ (ih h)
theorem find_of {l : List (Str × DefC)} (h : ∀ p ∈ l, p.2.d.name = p.1) (x : Str) : (l.map (·.2.d)).find? (fun d => decide (d.name = x)) = (l.lookup x).map (·.d) := by
  induction l with
  | nil => rfl
  | cons p l ih =>
    obtain ⟨y, D⟩ := p
    have hy := h (y, D) List.mem_cons_self
    simp only at hy
    rw [List.map_cons, List.find?_cons, List.lookup_cons]
    by_cases e : x = y
    · subst e
      simp [hy]
    · rw [hy]
      have e1 : decide (y = x) = false := decide_eq_false (Ne.symm e)
      have e2 : (x == y) = false := by simp [e]
      rw [e1, e2]
      exact ih fun p hp => h p (List.mem_cons_of_mem _ hp)
theorem lawOk {K : PySem.W.Frag} {h : Heap} {mg : Str → Option Value} {L : LawD} {n : Nat} (fuel : Nat) (KX : K.In h) (G : h.Ns mainGlobals mg) (c : SaysD L.fa L.fn K) (e : L.ex K = true) (wf : L.Wf n) : LawOk K mg (L.cfg fuel) L.gl n := by
  obtain ⟨e1, e⟩ := ba e
  obtain ⟨e2, e3⟩ := ba e
  have c1 := (ba (show ((L.fa.all fun f => f.ok K) && L.fn.all fun d => d.ok K) = true from congrArg (fun z : AlD => z.1) c)).1
  have fact : ∀ f ∈ L.fa, f.ok K = true := List.all_eq_true.mp c1
  have memD : ∀ {x D}, L.defs.lookup x = some D → (x, D) ∈ L.defs := fun h => PySem.mem_of_lookup h
  have gloD : ∀ {x D}, (x, D) ∈ L.defs → mg x = some (.ref (ga K x)) := fun {x D} hm => glo_ok KX G (fact _ (by
    simp only [LawD.fa, List.mem_append, List.mem_map]
    exact .inl (.inl (.inl (.inl ⟨_, hm, rfl⟩)))))
  have gloE : ∀ {x}, x ∈ L.excs ++ L.clss → mg x = some (.ref (ga K x)) := fun {x} hm => glo_ok KX G (fact _ (by
    unfold LawD.fa
    exact List.mem_append_left _ (List.mem_append_left _ (List.mem_append_left _ (List.mem_append_right _ (List.mem_map.mpr ⟨x, hm, rfl⟩))))))
  have exc : ∀ {x}, x ∈ L.excs → (Fa.exc x).ok K = true := fun {x} hm => fact _ (by
    simp only [LawD.fa, List.mem_append, List.mem_map]
    exact .inl (.inl (.inr ⟨x, hm, rfl⟩)))
  have free : ∀ {x}, x ∈ L.frees → mg x = none := fun {x} hm => free_ok KX G (fact _ (by
    simp only [LawD.fa, List.mem_append, List.mem_map]
    exact .inl (.inr ⟨x, hm, rfl⟩)))
  have exm : ∀ p ∈ L.subs, (Fa.exm p.1.1 p.1.2 p.2).ok K = true := fun p hm => fact _ (by
    simp only [LawD.fa, List.mem_append, List.mem_map]
    exact .inr ⟨p, hm, rfl⟩)
  have funs : ∀ {x D}, (x, D) ∈ L.defs → ∃ fd, FunD K x x D.args D.body D.scope [] [] (ga K x) fd := fun {x D} hm => by
    obtain ⟨i, hi⟩ := List.mem_iff_getElem?.mp (List.mem_map.mpr ⟨(x, D), hm, rfl⟩ : D.at_ x ∈ L.fn)
    exact c.def_ i hi
  refine ⟨fun x k hk => ?_, fun a b r hr => ?_, fun x m xc h1 h2 => ?_, fun x f h1 h2 => ?_⟩
  · unfold LawD.gl at hk
    cases hd : L.defs.lookup x with
    | some D =>
      rw [hd] at hk; cases hk
      obtain ⟨fd, F⟩ := funs (memD hd)
      exact ⟨_, gloD (memD hd), F.kp⟩
    | none =>
      rw [hd] at hk
      simp only at hk
      cases hc : L.consts.lookup x with
      | some d =>
        rw [hc] at hk; cases hk
        have q := List.all_eq_true.mp e1 (x, d) (PySem.mem_of_lookup hc)
        simp only at q
        split at q
        · rename_i u hu
          obtain ⟨v, r, z⟩ := conB_rel (mg := mg) d u q
          exact ⟨v, u, PySem.W.mg_of KX G hu, r, z⟩
        · cases q
      | none =>
        rw [hc] at hk
        simp only at hk
        split at hk
        · rename_i he; cases hk; exact ⟨_, gloE (List.mem_append.mpr he)⟩
        · split at hk
          · rename_i hf; cases hk; exact free hf
          · cases hk
  · have hm : ((a, b), r) ∈ L.subs := mem_look (show L.subs.lookup (a, b) = some r from hr)
    obtain ⟨m1, m2⟩ := wf.subs _ hm
    exact ⟨_, _, gloE (List.mem_append_left _ m1), gloE m2, exB_ok (List.all_eq_true.mp e2 a m1) (exc m1), of_decide_eq_true (List.all_eq_true.mp e3 _ hm), exm_ok (exm _ hm)⟩
  · have hx : x ∈ L.excs ∧ xc = ⟨x, []⟩ := by
      change L.mkx x [.str m] = some xc at h2
      unfold LawD.mkx at h2
      simp only at h2
      split at h2
      · rename_i he; cases h2; exact ⟨he, rfl⟩
      · cases h2
    obtain ⟨hx, rfl⟩ := hx
    obtain ⟨q1, q2, q3, q4⟩ := exc_ok (exc hx)
    exact ⟨⟨ga K x, _, _, _, _, PySem.F.excBase_ValueError, q1, gloE (List.mem_append_left _ hx), q2, q3, q4⟩, rfl, rfl⟩
  · unfold LawD.gl at h1
    cases hd : L.defs.lookup x with
    | none =>
      exfalso
      rw [hd] at h1
      simp only at h1
      cases hc : L.consts.lookup x with
      | some d => rw [hc] at h1; cases h1
      | none =>
        rw [hc] at h1
        simp only at h1
        split at h1
        · cases h1
        · split at h1 <;> cases h1
    | some D =>
      obtain ⟨w1, w2, w3⟩ := wf.defs _ (memD hd)
      obtain ⟨fd, F⟩ := funs (memD hd)
      have ef := (gloD (memD hd)).symm.trans h2
      cases ef
      refine ⟨D, fd, ?_, w2, F, F.bindsN w3⟩
      show (L.cfg fuel).get x = some D.d
      unfold Cfg.get
      show (L.defs.map (·.2.d)).find? _ = _
      rw [find_of (fun p hp => (wf.defs p hp).1) x, hd]
      rfl
end Pi

set_option maxRecDepth 100000
/-! Pi, running in plain Lean: the rules that simp uses. -/
namespace Pi
open PySem

theorem run_def {g : Cfg} {k : Nat} {hd : Option Exc} {x : Str} {ds : List D} {s : Sto} (d : Def) (h : g.get x = some d) (h1 : ds.length = d.params) (h2 : d.params ≤ d.slots) (h3 : hd = none ∨ d.hot = true) :
    run g (k + 1) hd x ds s = finish s d.fresh (exSs (g.ct (run g k) hd) d.body (startE d ds) s) := by
  rw [run, h]
  exact if_pos ⟨h1, h2, h3⟩
theorem backOk_self (s : Sto) : backOk s s = true := by simp [backOk]
theorem leave_pl {s : Sto} {fresh : Bool} {d : D} (h : d.pl = true) : leave s fresh d s = .ok d s := by
  unfold leave
  rw [if_pos (backOk_self s), if_pos h, List.take_length]
theorem finish_rt {s : Sto} {fresh : Bool} {d : D} (h : d.pl = true) : finish s fresh (.rt d s) = .ok d s := leave_pl h
theorem finish_nx {s : Sto} {fresh : Bool} {e : Env} : finish s fresh (.nx e s) = .ok .non s := leave_pl rfl
theorem finish_exc {s : Sto} {fresh : Bool} {e : Env} {c : Str} : finish s fresh (.exc e ⟨c, []⟩ s) = .exc ⟨c, []⟩ s := by
  show leaveX s ⟨c, []⟩ s = _
  unfold leaveX
  rw [backOk_self]
  simp
section
variable {cx : Ct}
@[simp] theorem b_add {s : Sto} {i j : Int} : binD .Add s (.int i) (.int j) = some (.int (i + j)) := rfl
@[simp] theorem b_sub {s : Sto} {i j : Int} : binD .Sub s (.int i) (.int j) = some (.int (i - j)) := rfl
theorem b_mul {s : Sto} {i j : Int} (h : mulOk i j = true) : binD .Mult s (.int i) (.int j) = some (.int (i * j)) := by simp [binD, h]
theorem b_div {s : Sto} {i j : Int} (h : divOk j = true) : binD .FloorDiv s (.int i) (.int j) = some (.int (i / j)) := by simp [binD, h]
theorem b_mod {s : Sto} {i j : Int} (h : 0 < j) : binD .Mod s (.int i) (.int j) = some (.int (i % j)) := by simp [binD, h]
@[simp] theorem c_lt {s : Sto} {i j : Int} : cmpD .Lt s (.int i) (.int j) = some (decide (i < j)) := rfl
@[simp] theorem c_le {s : Sto} {i j : Int} : cmpD .LtE s (.int i) (.int j) = some (decide (i ≤ j)) := rfl
@[simp] theorem c_gt {s : Sto} {i j : Int} : cmpD .Gt s (.int i) (.int j) = some (decide (j < i)) := rfl
@[simp] theorem c_ge {s : Sto} {i j : Int} : cmpD .GtE s (.int i) (.int j) = some (decide (j ≤ i)) := rfl
theorem eqv_int (i j : Int) : PyData.eqv (.int i) (.int j) = decide (i = j) := by simp only [PyData.eqv]; exact Bool.beq_eq_decide_eq i j
@[simp] theorem c_eq {s : Sto} {i j : Int} : cmpD .Eq s (.int i) (.int j) = some (decide (i = j)) := by
  show eqD s (.int i) (.int j) = _
  simp [eqD, view, D.pl, D.pd, PyData.depth, eqRoom, eqv_int]
@[simp] theorem c_ne {s : Sto} {i j : Int} : cmpD .NotEq s (.int i) (.int j) = some (!decide (i = j)) := by
  show (eqD s (.int i) (.int j)).map _ = _
  rw [show eqD s (.int i) (.int j) = some (decide (i = j)) from c_eq]; rfl
@[simp] theorem i_tup {s : Sto} {ds : List D} {i : Int} : idxD s (.tup ds) (.int i) = L2.atI ds i := rfl
end

/-! ### in applied form, for simp -/
def Out.seq (o : Out) (f : Env → Sto → Out) : Out := match o with
  | .nx e s => f e s
  | o => o
def tstE (cx : Ct) (t : E) (e : Env) (s : Sto) : Res Bool := tst (evE cx t e s)
section
variable {cx : Ct} {e : Env} {s : Sto}
@[simp] theorem seq_nx (f : Env → Sto → Out) : (Out.nx e s).seq f = f e s := rfl
@[simp] theorem seq_rt (d : D) (f : Env → Sto → Out) : (Out.rt d s).seq f = .rt d s := rfl
@[simp] theorem seq_exc (x : Exc) (f : Env → Sto → Out) : (Out.exc e x s).seq f = .exc e x s := rfl
@[simp] theorem seq_bk (f : Env → Sto → Out) : (Out.bk e s).seq f = .bk e s := rfl
@[simp] theorem seq_ct (f : Env → Sto → Out) : (Out.ct e s).seq f = .ct e s := rfl
@[simp] theorem thenO_ok {α : Type} (a : α) (k : α → Sto → Out) : thenO (.ok a s) e k = k a s := rfl
@[simp] theorem thenO_exc {α : Type} (x : Exc) (k : α → Sto → Out) : thenO (.exc x s) e k = .exc e x s := rfl
@[simp] theorem tst_ok (d : D) : tst (.ok d s) = Res.of (truth s d) s := rfl
@[simp] theorem truth_bl (b : Bool) : truth s (.bl b) = some b := rfl
@[simp] theorem truth_int (i : Int) : truth s (.int i) = some (i != 0) := rfl
@[simp] theorem R_nil : exSs cx .nil e s = .nx e s := by rw [xss_nil]
@[simp] theorem R_cons (a : S) (r : SL) : exSs cx (.cons a r) e s = (exS cx a e s).seq (exSs cx r) := by rw [xss_cons]; rfl
@[simp] theorem R_asg (t : TG) (a : E) : exS cx (.asg t a) e s = thenO (evE cx a e s) e fun d s1 => thenO (evG cx t d e s1) e fun e1 s1 => .nx e1 s1 := by rw [xs_asg]
@[simp] theorem R_ret (a : E) : exS cx (.ret a) e s = thenO (evE cx a e s) e fun d s1 => .rt d s1 := by rw [xs_ret]
@[simp] theorem R_retN : exS cx .retN e s = .rt .non s := by rw [xs_retN]
@[simp] theorem R_pass : exS cx .pass e s = .nx e s := by rw [xs_pass]
@[simp] theorem R_brk : exS cx .brk e s = .bk e s := by rw [xs_brk]
@[simp] theorem R_cont : exS cx .cont e s = .ct e s := by rw [xs_cont]
@[simp] theorem R_ex (a : E) : exS cx (.ex a) e s = thenO (evE cx a e s) e fun _ s1 => .nx e s1 := by rw [xs_ex]
@[simp] theorem R_ite (t : E) (a b : SL) : exS cx (.ite t a b) e s = thenO (tst (evE cx t e s)) e fun k s1 => if k then exSs cx a e s1 else exSs cx b e s1 := by rw [xs_ite]
@[simp] theorem R_for (t : TG) (i : IT) (b : SL) : exS cx (.for t i b) e s = thenO (evI cx i e s) e fun p s1 => loopFor p.2 (evG cx t) (exSs cx b) p.1 e s1 := by rw [xs_for]
@[simp] theorem R_while (t : E) (b : SL) : exS cx (.while t b) e s = loopWhile (tstE cx t) (exSs cx b) cx.fuel e s := by rw [xs_while]; rfl
@[simp] theorem R_par (is : List Nat) (es : EL) : exS cx (.par is es) e s = thenO (evL cx es e s) e fun ds s1 => parS is ds e s1 := by rw [xs_par]
@[simp] theorem R_aug (i : Nat) (a : E) : exS cx (.aug i .Add a) e s = thenO (augR i (evE cx a) e s) e fun d s1 => .nx (e.set i (some d)) s1 := by rw [xs_aug]
@[simp] theorem R_try (b h : SL) (c : Str) (i : Option Nat) : exS cx (.try b (.cons c i h .nil)) e s = tryR cx.sub c i (exSs cx b) (fun xc e s => exSs { cx with hd := some xc } h e s) e s := by rw [xs_try]
theorem R_raise (c : Str) (m : Str) : exS cx (.raise c (.cons (.c (.str m)) .nil)) e s = match cx.mkx c [.str m] with
    | some xc => .exc e xc s
    | none => .stuck := by rw [xs_raise]; cases cx.mkx c [.str m] <;> rfl
@[simp] theorem Q_nil : evL cx .nil e s = .ok [] s := by rw [evL_nil]
@[simp] theorem Q_cons (a : E) (r : EL) : evL cx (.cons a r) e s = (evE cx a e s).bind fun d s1 => (evL cx r e s1).bind fun ds s2 => .ok (d :: ds) s2 := by rw [evL_cons]
@[simp] theorem Q_c (d : D) : evE cx (.c d) e s = .ok d s := by rw [comp_c]
@[simp] theorem Q_g (x : Str) (d : D) : evE cx (.g x d) e s = .ok d s := by rw [comp_g]
theorem Q_v (i : Nat) : evE cx (.v i) e s = getV i e s := by rw [comp_var]
@[simp] theorem Q_v0 {d : D} {r : Env} : evE cx (.v 0) (some d :: r) s = .ok d s := by rw [comp_var]; rfl
@[simp] theorem Q_vS {i : Nat} {o : Option D} {r : Env} : evE cx (.v (i + 1)) (o :: r) s = evE cx (.v i) r s := by rw [comp_var, comp_var]; rfl
@[simp] theorem Q_v1 {o : Option D} {r : Env} : evE cx (.v 1) (o :: r) s = evE cx (.v 0) r s := Q_vS
@[simp] theorem Q_bin (op : Operator) (a b : E) : evE cx (.bin op a b) e s = (evE cx a e s).bind fun x s1 => (evE cx b e s1).bind fun y s2 => Res.of (binD op s2 x y) s2 := by rw [ev_bin]
@[simp] theorem Q_neg (a : E) : evE cx (.neg a) e s = (evE cx a e s).bind fun x s1 => Res.of (negD x) s1 := by rw [ev_neg]
@[simp] theorem Q_not (a : E) : evE cx (.not a) e s = (tst (evE cx a e s)).bind fun k s1 => .ok (.bl (!k)) s1 := by rw [ev_not]
@[simp] theorem Q_cmp (op : CmpOp) (a b : E) : evE cx (.cmp op a b) e s = (evE cx a e s).bind fun x s1 => (evE cx b e s1).bind fun y s2 => Res.of ((cmpD op s2 x y).map .bl) s2 := by rw [ev_cmp]
@[simp] theorem Q_chain (o1 o2 : CmpOp) (a b c : E) : evE cx (.chain o1 o2 a b c) e s = chainR (evE cx a) (evE cx b) (evE cx c) o1 o2 e s := by rw [ev_chain]
@[simp] theorem Q_and (a b : E) : evE cx (.and a b) e s = (evE cx a e s).bind fun x s1 => (Res.of (truth s1 x) s1).bind fun k s2 => if k then evE cx b e s2 else .ok x s2 := by rw [ev_and]; rfl
@[simp] theorem Q_or (a b : E) : evE cx (.or a b) e s = (evE cx a e s).bind fun x s1 => (Res.of (truth s1 x) s1).bind fun k s2 => if k then .ok x s2 else evE cx b e s2 := by rw [ev_or]; rfl
@[simp] theorem Q_ite (t a b : E) : evE cx (.ite t a b) e s = (tst (evE cx t e s)).bind fun k s1 => if k then evE cx a e s1 else evE cx b e s1 := by rw [ev_ite]
@[simp] theorem Q_idx (a b : E) : evE cx (.idx a b) e s = (evE cx a e s).bind fun x s1 => (evE cx b e s1).bind fun y s2 => Res.of (idxD s2 x y) s2 := by rw [ev_idx]
@[simp] theorem Q_cut (a : E) (l h : EO) : evE cx (.cut a l h) e s = (evE cx a e s).bind fun x s1 => (evO cx l e s1).bind fun l s2 => (evO cx h e s2).bind fun h s3 => Res.of (cutAt s3 x l h) s3 := by rw [ev_cut]
@[simp] theorem Q_oN : evO cx .none e s = .ok none s := by rw [evO_none]
@[simp] theorem Q_oS (a : E) : evO cx (.some a) e s = (evE cx a e s).bind fun d s1 => match d with
    | .int i => .ok (some i) s1
    | _ => .stuck := congrFun (congrFun (evO_some a) e) s
@[simp] theorem Q_tup (es : EL) : evE cx (.tup es) e s = (evL cx es e s).bind fun ds s1 => if calmL cx.hd ds then .ok (.tup ds) s1 else .stuck := by rw [ev_tup]
@[simp] theorem Q_lst (es : EL) : evE cx (.lst es) e s = (evL cx es e s).bind fun ds s1 => if calmL cx.hd ds then .ok (.lst ds) s1 else .stuck := by rw [ev_lst]
@[simp] theorem Q_call (x : Str) (es : EL) : evE cx (.call x es) e s = (evL cx es e s).bind fun ds s1 => cx.call cx.hd x ds s1 := by rw [ev_call]
@[simp] theorem Q_bi (x : Bi) (es : EL) : evE cx (.bi x es) e s = (evL cx es e s).bind fun ds s1 => Res.of (biD x s1 ds) s1 := by rw [ev_bi]
@[simp] theorem Q_isi (a : E) (cs : List D) : evE cx (.isi a cs) e s = (evE cx a e s).bind fun d s1 => Res.of ((isiD cx.hd cx.sub s1 d cs).map .bl) s1 := by rw [evE]
@[simp] theorem Q_meth (m : Me) (o : E) (es : EL) : evE cx (.meth m o es) e s = (evE cx o e s).bind fun d s1 => if isRef d then (evL cx es e s1).bind fun ds s2 => methD m s2 d ds else .stuck := by rw [ev_meth]; rfl
@[simp] theorem Q_mat (a : E) : evE cx (.mat a) e s = (evE cx a e s).bind matR := by rw [ev_mat]; rfl
@[simp] theorem Q_comp (vs : List Nat) (a : E) (i : IT) (t : TG) (b : EO) : evE cx (.comp vs a i (.one t b)) e s = compR (evI cx i) (evG cx t) (evT cx b) (evE cx a) vs e s := by rw [ev_comp]
@[simp] theorem Q_gv (i : Nat) (d : D) : evG cx (.v i) d e s = if i < e.length then .ok (e.set i (some d)) s else .stuck := by rw [evG_v]; rfl
@[simp] theorem Q_gt (ts : TGL) (ds : List D) : evG cx (.tup ts) (.tup ds) e s = evGs cx ts ds e s := by rw [evG_tup]
@[simp] theorem Q_gn : evGs cx .nil [] e s = .ok e s := by rw [evGs_nil]; rfl
@[simp] theorem Q_gc (t : TG) (r : TGL) (d : D) (ds : List D) : evGs cx (.cons t r) (d :: ds) e s = (evG cx t d e s).bind fun e1 s1 => evGs cx r ds e1 s1 := by rw [evGs_cons]; rfl
@[simp] theorem Q_ix (a : E) : evI cx (.ex a) e s = (evE cx a e s).bind fun d s1 => match itemsOf s1 d with
    | some ds => .ok (ds, guardOf s1 d) s1
    | none => .stuck := congrFun (congrFun (evI_ex a) e) s
@[simp] theorem Q_r1 (a : E) : evI cx (.range (.cons a .nil)) e s = (evE cx a e s).bind fun d s1 => rangeK [d] s1 := by rw [evI_r1]
@[simp] theorem Q_r2 (a b : E) : evI cx (.range (.cons a (.cons b .nil))) e s = (evE cx a e s).bind fun d s1 => (evE cx b e s1).bind fun d2 s2 => rangeK [d, d2] s2 := by rw [evI_r2]
@[simp] theorem Q_tN : evT cx .none e s = .ok true s := by rw [evT]
@[simp] theorem Q_tS (c : E) : evT cx (.some c) e s = tst (evE cx c e s) := by rw [evT]
@[simp] theorem ct_call (g : Cfg) (c : Option Exc → Str → List D → Sto → Res D) (hd : Option Exc) : (g.ct c hd).call = c := rfl
@[simp] theorem ct_hd (g : Cfg) (c : Option Exc → Str → List D → Sto → Res D) (hd : Option Exc) : (g.ct c hd).hd = hd := rfl
@[simp] theorem ct_sub (g : Cfg) (c : Option Exc → Str → List D → Sto → Res D) (hd : Option Exc) : (g.ct c hd).sub = g.sub := rfl
@[simp] theorem ct_mkx (g : Cfg) (c : Option Exc → Str → List D → Sto → Res D) (hd : Option Exc) : (g.ct c hd).mkx = g.mkx := rfl
@[simp] theorem ct_fuel (g : Cfg) (c : Option Exc → Str → List D → Sto → Res D) (hd : Option Exc) : (g.ct c hd).fuel = g.fuel := rfl
@[simp] theorem D_abs (i : Int) : biD .abs s [.int i] = some (.int i.natAbs) := by
  show some (D.int _) = _
  congr 2
  split <;> omega
@[simp] theorem D_int (i : Int) : biD .int s [.int i] = some (.int i) := rfl
@[simp] theorem D_neg (i : Int) : negD (.int i) = some (.int (-i)) := rfl
theorem calm_none {ds : List D} (h : ds.length ≤ 1000) : calmL none ds = true := by
  have : sizeLine = 16777216 := sizeLine_eq
  simp [calmL]; omega
end
/-! ### comprehensions that change nothing -/
theorem loopComp_map {gd : Gd} {e0 : Env} {g : D → Env → Sto → Res Env} {tt : Env → Sto → Res Bool} {fe : Env → Sto → Res D} {s : Sto} (f : D → D) (hh : held gd s = true) : ∀ (ds acc : List D), acc.length + ds.length ≤ sizeLine →
    (∀ d ∈ ds, ∃ e1, g d e0 s = .ok e1 s ∧ tt e1 s = .ok true s ∧ fe e1 s = .ok (f d) s) → loopComp gd e0 g (turnC tt fe) ds acc s = .ok (acc ++ ds.map f) s
  | [], acc, _, _ => by rw [loopComp, if_pos hh, List.map_nil, List.append_nil]
  | d :: ds, acc, hl, h => by
    obtain ⟨e1, h1, h2, h3⟩ := h d List.mem_cons_self
    have hz : acc.length < sizeLine := by simp at hl; omega
    rw [loopComp, if_pos hh, h1]
    simp only [turnC, h2, h3, Res.bind_ok, if_true, if_pos hz]
    rw [loopComp_map f hh ds (acc ++ [f d]) (by simp at hl ⊢; omega) fun d hd => h d (List.mem_cons_of_mem _ hd)]
    simp
theorem compR_map {fi : Env → Sto → Res (List D × Gd)} {g : D → Env → Sto → Res Env} {tt : Env → Sto → Res Bool} {fe : Env → Sto → Res D} {vs : List Nat} {e : Env} {s : Sto} {ds : List D} {gd : Gd} (f : D → D) (hi : fi e s = .ok (ds, gd) s) (hh : held gd s = true) (hl : ds.length ≤ sizeLine)
    (h : ∀ d ∈ ds, ∃ e1, g d (wipeE e vs) s = .ok e1 s ∧ tt e1 s = .ok true s ∧ fe e1 s = .ok (f d) s) : compR fi g tt fe vs e s = .ok (.lst (ds.map f)) s := by
  unfold compR
  rw [hi]
  simp only [Res.bind_ok]
  rw [loopComp_map f hh ds [] (by simpa using hl) h]
  rfl
@[simp] theorem D_len {s : Sto} {ds : List D} : biD .len s [.tup ds] = some (.int ds.length) := rfl
@[simp] theorem D_lenL {s : Sto} {ds : List D} : biD .len s [.lst ds] = some (.int ds.length) := rfl
theorem mapM_bl (g : D → Option Bool) (hg : ∀ b, g (.bl b) = some b) (f : D → Bool) : ∀ ds : List D, (ds.map fun d => D.bl (f d)).mapM g = some (ds.map f)
  | [] => rfl
  | d :: ds => by
    rw [List.map_cons, List.mapM_cons, mapM_bl g hg f ds, hg]
    rfl
theorem D_all {s : Sto} {ds : List D} {f : D → Bool} : biD .all s [.lst (ds.map fun d => D.bl (f d))] = some (.bl (ds.all f)) := by
  have h : boolsD s (.lst (ds.map fun d => D.bl (f d))) = some (ds.map f) := mapM_bl _ (fun _ => rfl) f ds
  show (boolsD s _).map _ = _
  rw [h]
  simp
/-! ### what equals itself -/
mutual
theorem eqv_self : ∀ d : D, d.pl = true → PyData.eqv d.pd d.pd = true
  | .non, _ => by simp [D.pd, PyData.eqv]
  | .bl b, _ => by cases b <;> simp [D.pd, PyData.eqv]
  | .int i, _ => by simp [D.pd, PyData.eqv]
  | .str x, _ => by simp [D.pd, PyData.eqv]
  | .tup ds, h => by simp only [D.pd, PyData.eqv]; exact eqvs_self ds (by simpa [D.pl] using h)
  | .lst ds, h => by simp only [D.pd, PyData.eqv]; exact eqvs_self ds (by simpa [D.pl] using h)
  | .ref _, h | .fn _, h | .ty _, h | .exn, h | .scr _, h => by simp [D.pl] at h
theorem eqvs_self : ∀ ds : List D, plAll ds = true → PyData.eqvAll (pdAll ds) (pdAll ds) = true
  | [], _ => by simp [pdAll, PyData.eqvAll]
  | d :: ds, h => by
    simp only [plAll, Bool.and_eq_true] at h
    simp only [pdAll, PyData.eqvAll, eqv_self d h.1, eqvs_self ds h.2, Bool.and_self]
end
theorem view_pl {s : Sto} {d : D} (h : d.pl = true) : view s d = d := by
  unfold view
  cases d <;> first | rfl | cases h
theorem eqD_self {s : Sto} {d : D} (h : d.pl = true) (hd : d.pd.depth ≤ eqRoom) : eqD s d d = some true := by
  unfold eqD
  rw [view_pl h, h, eqv_self d h]
  simp [hd]
theorem ne_self {s : Sto} {d : D} (h : d.pl = true) (hd : d.pd.depth ≤ eqRoom) : cmpD .NotEq s d d = some false := by
  show (eqD s d d).map _ = _
  rw [eqD_self h hd]; rfl
theorem eq_self' {s : Sto} {d : D} (h : d.pl = true) (hd : d.pd.depth ≤ eqRoom) : cmpD .Eq s d d = some true := eqD_self h hd
theorem in_self {s : Sto} {d l : D} {ds : List D} (hl : seqOf s l = some ds) (hs : ∀ x, d ≠ .str x) (h : d.pl = true) (hp : plAll ds = true) (hd : d.pd.depth ≤ eqRoom) (hm : d ∈ ds) : cmpD .NotIn s d l = some false := by
  show (inD s d l).map _ = _
  have : inD s d l = some true := by
    unfold inD
    split
    · exact absurd rfl (hs _)
    · rw [hl]
      simp only [h, hp, hd, decide_true, Bool.and_self, if_true]
      rw [List.any_eq_true.mpr ⟨d, hm, eqv_self d h⟩]
  rw [this]; rfl
end Pi

set_option maxRecDepth 100000
set_option maxHeartbeats 0
namespace K32
open PySem PySem.Spec PyProof.Rows L2 Pi
def top (i : Nat) : Stmt := PySem.Challenge.pw_deedscharged_k32_fractions.main.body.getD i (.Pass ⟨0, 0, 0, 0⟩)
def d_common : Def := ⟨"common", 2, 2, (.cons (.par [0, 1] (.cons (.bi .abs (.cons (.v 0) .nil)) (.cons (.bi .abs (.cons (.v 1) .nil)) .nil))) (.cons (.while (.v 1) (.cons (.par [0, 1] (.cons (.v 1) (.cons (.bin .Mod (.v 0) (.v 1)) .nil))) .nil)) (.cons (.ret (.v 0)) .nil))), false, false⟩
def c_common : DefC := ⟨defArgs (top 13), defBody (top 13), defScope (top 13), ["one", "other"], ["one", "other"], [], d_common⟩
def d_told : Def := ⟨"told", 2, 3, (.cons (.ite (.cmp .Lt (.v 1) (.c (.int 0))) (.cons (.par [0, 1] (.cons (.neg (.v 0)) (.cons (.neg (.v 1)) .nil))) .nil) .nil) (.cons (.asg (.v 2) (.call "common" (.cons (.v 0) (.cons (.v 1) .nil)))) (.cons (.ret (.tup (.cons (.bin .FloorDiv (.v 0) (.v 2)) (.cons (.bin .FloorDiv (.v 1) (.v 2)) .nil)))) .nil))), false, false⟩
def c_told : DefC := ⟨defArgs (top 14), defBody (top 14), defScope (top 14), ["top", "low", "part"], ["top", "low"], [], d_told⟩
def d_fraction : Def := ⟨"fraction", 2, 2, (.cons (.ite (.or (.not (.isi (.v 0) [(.ty "int")])) (.or (.not (.isi (.v 1) [(.ty "int")])) (.cmp .Eq (.v 1) (.c (.int 0))))) (.cons (.raise "BadNumber" (.cons (.c (.str "this is no fraction")) .nil)) .nil) .nil) (.cons (.ret (.call "told" (.cons (.v 0) (.cons (.v 1) .nil)))) .nil)), false, false⟩
def c_fraction : DefC := ⟨defArgs (top 15), defBody (top 15), defScope (top 15), ["top", "low"], ["top", "low"], [], d_fraction⟩
def d_is_fraction : Def := ⟨"is_fraction", 1, 3, (.cons (.ite (.or (.not (.isi (.v 0) [(.ty "tuple")])) (.or (.cmp .NotEq (.bi .len (.cons (.v 0) .nil)) (.c (.int 2))) (.not (.bi .all (.cons (.comp [1, 2] (.isi (.v 2) [(.ty "int")]) (.ex (.v 0)) (.one (.v 2) .none)) .nil))))) (.cons (.ret (.c (.bl false))) .nil) .nil) (.cons (.ret (.and (.cmp .Gt (.idx (.v 0) (.c (.int 1))) (.c (.int 0))) (.cmp .Eq (.call "common" (.cons (.idx (.v 0) (.c (.int 0))) (.cons (.idx (.v 0) (.c (.int 1))) .nil))) (.c (.int 1))))) .nil)), false, false⟩
def c_is_fraction : DefC := ⟨defArgs (top 16), defBody (top 16), defScope (top 16), ["term", ".0", "part"], ["term"], [], d_is_fraction⟩
def d_whole : Def := ⟨"whole", 1, 1, (.cons (.ret (.tup (.cons (.v 0) (.cons (.c (.int 1)) .nil)))) .nil), false, false⟩
def c_whole : DefC := ⟨defArgs (top 17), defBody (top 17), defScope (top 17), ["number"], ["number"], [], d_whole⟩
def d_plus : Def := ⟨"plus", 2, 2, (.cons (.ret (.call "told" (.cons (.bin .Add (.bin .Mult (.idx (.v 0) (.c (.int 0))) (.idx (.v 1) (.c (.int 1)))) (.bin .Mult (.idx (.v 1) (.c (.int 0))) (.idx (.v 0) (.c (.int 1))))) (.cons (.bin .Mult (.idx (.v 0) (.c (.int 1))) (.idx (.v 1) (.c (.int 1)))) .nil)))) .nil), false, false⟩
def c_plus : DefC := ⟨defArgs (top 18), defBody (top 18), defScope (top 18), ["one", "other"], ["one", "other"], [], d_plus⟩
def d_minus : Def := ⟨"minus", 2, 2, (.cons (.ret (.call "told" (.cons (.bin .Sub (.bin .Mult (.idx (.v 0) (.c (.int 0))) (.idx (.v 1) (.c (.int 1)))) (.bin .Mult (.idx (.v 1) (.c (.int 0))) (.idx (.v 0) (.c (.int 1))))) (.cons (.bin .Mult (.idx (.v 0) (.c (.int 1))) (.idx (.v 1) (.c (.int 1)))) .nil)))) .nil), false, false⟩
def c_minus : DefC := ⟨defArgs (top 19), defBody (top 19), defScope (top 19), ["one", "other"], ["one", "other"], [], d_minus⟩
def d_times : Def := ⟨"times", 2, 2, (.cons (.ret (.call "told" (.cons (.bin .Mult (.idx (.v 0) (.c (.int 0))) (.idx (.v 1) (.c (.int 0)))) (.cons (.bin .Mult (.idx (.v 0) (.c (.int 1))) (.idx (.v 1) (.c (.int 1)))) .nil)))) .nil), false, false⟩
def c_times : DefC := ⟨defArgs (top 20), defBody (top 20), defScope (top 20), ["one", "other"], ["one", "other"], [], d_times⟩
def d_over : Def := ⟨"over", 2, 2, (.cons (.ite (.cmp .Eq (.idx (.v 1) (.c (.int 0))) (.c (.int 0))) (.cons (.raise "BadNumber" (.cons (.c (.str "nothing is divided by 0")) .nil)) .nil) .nil) (.cons (.ret (.call "told" (.cons (.bin .Mult (.idx (.v 0) (.c (.int 0))) (.idx (.v 1) (.c (.int 1)))) (.cons (.bin .Mult (.idx (.v 0) (.c (.int 1))) (.idx (.v 1) (.c (.int 0)))) .nil)))) .nil)), false, false⟩
def c_over : DefC := ⟨defArgs (top 21), defBody (top 21), defScope (top 21), ["one", "other"], ["one", "other"], [], d_over⟩
def d_negative : Def := ⟨"negative", 1, 1, (.cons (.ret (.tup (.cons (.neg (.idx (.v 0) (.c (.int 0)))) (.cons (.idx (.v 0) (.c (.int 1))) .nil)))) .nil), false, false⟩
def c_negative : DefC := ⟨defArgs (top 22), defBody (top 22), defScope (top 22), ["one"], ["one"], [], d_negative⟩
def d_is_less : Def := ⟨"is_less", 2, 2, (.cons (.ret (.cmp .Lt (.bin .Mult (.idx (.v 0) (.c (.int 0))) (.idx (.v 1) (.c (.int 1)))) (.bin .Mult (.idx (.v 1) (.c (.int 0))) (.idx (.v 0) (.c (.int 1)))))) .nil), false, false⟩
def c_is_less : DefC := ⟨defArgs (top 23), defBody (top 23), defScope (top 23), ["one", "other"], ["one", "other"], [], d_is_less⟩
def d_is_at_least : Def := ⟨"is_at_least", 2, 2, (.cons (.ret (.cmp .GtE (.bin .Mult (.idx (.v 0) (.c (.int 0))) (.idx (.v 1) (.c (.int 1)))) (.bin .Mult (.idx (.v 1) (.c (.int 0))) (.idx (.v 0) (.c (.int 1)))))) .nil), false, false⟩
def c_is_at_least : DefC := ⟨defArgs (top 24), defBody (top 24), defScope (top 24), ["one", "other"], ["one", "other"], [], d_is_at_least⟩
def d_least : Def := ⟨"least", 1, 3, (.cons (.asg (.v 1) (.idx (.v 0) (.c (.int 0)))) (.cons (.for (.v 2) (.ex (.cut (.v 0) (.some (.c (.int 1))) .none)) (.cons (.asg (.v 1) (.ite (.call "is_less" (.cons (.v 2) (.cons (.v 1) .nil))) (.v 2) (.v 1))) .nil)) (.cons (.ret (.v 1)) .nil))), false, false⟩
def c_least : DefC := ⟨defArgs (top 25), defBody (top 25), defScope (top 25), ["some", "found", "one"], ["some"], [], d_least⟩
def d_greatest : Def := ⟨"greatest", 1, 3, (.cons (.asg (.v 1) (.idx (.v 0) (.c (.int 0)))) (.cons (.for (.v 2) (.ex (.cut (.v 0) (.some (.c (.int 1))) .none)) (.cons (.asg (.v 1) (.ite (.call "is_less" (.cons (.v 1) (.cons (.v 2) .nil))) (.v 2) (.v 1))) .nil)) (.cons (.ret (.v 1)) .nil))), false, false⟩
def c_greatest : DefC := ⟨defArgs (top 26), defBody (top 26), defScope (top 26), ["some", "found", "one"], ["some"], [], d_greatest⟩
def d_total : Def := ⟨"total", 1, 3, (.cons (.asg (.v 1) (.g "ZERO" (.tup [(.int 0), (.int 1)]))) (.cons (.for (.v 2) (.ex (.v 0)) (.cons (.asg (.v 1) (.call "plus" (.cons (.v 1) (.cons (.v 2) .nil)))) .nil)) (.cons (.ret (.v 1)) .nil))), false, false⟩
def c_total : DefC := ⟨defArgs (top 27), defBody (top 27), defScope (top 27), ["some", "found", "one"], ["some"], [], d_total⟩
def d__law_number : Def := ⟨"_law_number", 1, 1, (.cons (.ite (.cmp .Lt (.v 0) (.c (.int 0))) (.cons (.ret (.bin .Sub (.c (.int 0)) (.v 0))) .nil) .nil) (.cons (.ret (.v 0)) .nil)), false, false⟩
def c__law_number : DefC := ⟨defArgs (top 29), defBody (top 29), defScope (top 29), ["cell"], ["cell"], [], d__law_number⟩
def d__law_draws : Def := ⟨"_law_draws", 1, 7, (.cons (.asg (.v 1) (.mat (.lst .nil))) (.cons (.for (.v 2) (.ex (.v 0)) (.cons (.asg (.v 3) (.call "_law_number" (.cons (.v 2) .nil))) (.cons (.ite (.cmp .GtE (.v 3) (.c (.int 1000000000000000000))) (.cons (.for (.v 4) (.range (.cons (.c (.int 60)) .nil)) (.cons (.ite (.cmp .Eq (.v 3) (.c (.int 0))) (.cons .brk .nil) .nil) (.cons (.ex (.meth .append (.v 1) (.cons (.bin .Mod (.bi .int (.cons (.v 3) .nil)) (.c (.int 1000))) .nil))) (.cons (.asg (.v 3) (.bin .FloorDiv (.v 3) (.c (.int 1000)))) .nil)))) .nil) (.cons (.asg (.v 5) (.bin .Mod (.bi .int (.cons (.bin .Add (.bin .Mult (.v 3) (.c (.int 48271))) (.c (.int 11))) .nil)) (.c (.int 2147483647)))) (.cons (.asg (.v 6) (.bin .Mod (.bi .int (.cons (.bin .Add (.bin .Mult (.v 5) (.c (.int 69621))) (.v 3)) .nil)) (.c (.int 2147483629)))) (.cons (.ex (.meth .extend (.v 1) (.cons (.lst (.cons (.bin .Mod (.bi .int (.cons (.v 3) .nil)) (.c (.int 1000))) (.cons (.bin .Mod (.bi .int (.cons (.v 5) .nil)) (.c (.int 1000))) (.cons (.bin .Mod (.bi .int (.cons (.v 6) .nil)) (.c (.int 1000))) .nil)))) .nil))) .nil)))) .nil))) (.cons (.ex (.meth .reverse (.v 1) .nil)) (.cons (.ret (.v 1)) .nil)))), true, false⟩
def c__law_draws : DefC := ⟨defArgs (top 30), defBody (top 30), defScope (top 30), ["script", "draws", "cell", "rest", "k", "once", "twice"], ["script"], ["draws"], d__law_draws⟩
def d__law_next : Def := ⟨"_law_next", 1, 1, (.cons (.ite (.v 0) (.cons (.ret (.meth .pop (.v 0) .nil)) .nil) .nil) (.cons (.ret (.c (.int 0))) .nil)), false, false⟩
def c__law_next : DefC := ⟨defArgs (top 31), defBody (top 31), defScope (top 31), ["draws"], ["draws"], [], d__law_next⟩
def d__law_more : Def := ⟨"_law_more", 2, 5, (.cons (.asg (.v 2) (.bin .Add (.bin .Add (.bin .Mult (.c (.int 1000)) (.call "_law_next" (.cons (.v 0) .nil))) (.call "_law_next" (.cons (.v 0) .nil))) (.c (.int 1)))) (.cons (.asg (.v 3) (.mat (.lst .nil))) (.cons (.for (.v 4) (.range (.cons (.v 1) .nil)) (.cons (.asg (.v 2) (.bin .Mod (.bi .int (.cons (.bin .Add (.bin .Mult (.v 2) (.c (.int 48271))) (.c (.int 12345))) .nil)) (.c (.int 2147483647)))) (.cons (.ex (.meth .append (.v 3) (.cons (.bin .Mod (.bi .int (.cons (.bin .FloorDiv (.v 2) (.c (.int 7))) .nil)) (.c (.int 1000))) .nil))) .nil))) (.cons (.ret (.mat (.bin .Add (.v 3) (.v 0)))) .nil)))), true, false⟩
def c__law_more : DefC := ⟨defArgs (top 32), defBody (top 32), defScope (top 32), ["draws", "many", "seed", "more", "k"], ["draws", "many"], ["more"], d__law_more⟩
def d__law_common : Def := ⟨"_law_common", 2, 3, (.cons (.par [0, 1] (.cons (.bi .abs (.cons (.v 0) .nil)) (.cons (.bi .abs (.cons (.v 1) .nil)) .nil))) (.cons (.for (.v 2) (.range (.cons (.c (.int 400)) .nil)) (.cons (.ite (.cmp .Eq (.v 1) (.c (.int 0))) (.cons (.ret (.ite (.cmp .Gt (.v 0) (.c (.int 0))) (.v 0) (.c (.int 1)))) .nil) .nil) (.cons (.par [0, 1] (.cons (.v 1) (.cons (.bi .int (.cons (.bin .Mod (.v 0) (.v 1)) .nil)) .nil))) .nil))) (.cons (.ret (.c (.int 1))) .nil))), false, false⟩
def c__law_common : DefC := ⟨defArgs (top 33), defBody (top 33), defScope (top 33), ["one", "other", "turn"], ["one", "other"], [], d__law_common⟩
def d__law_fraction : Def := ⟨"_law_fraction", 2, 4, (.cons (.asg (.v 2) (.call "_law_common" (.cons (.v 0) (.cons (.v 1) .nil)))) (.cons (.asg (.v 3) (.ite (.cmp .Gt (.v 1) (.c (.int 0))) (.c (.int 1)) (.neg (.c (.int 1))))) (.cons (.ret (.tup (.cons (.bin .FloorDiv (.bin .Mult (.v 3) (.v 0)) (.v 2)) (.cons (.bin .FloorDiv (.bin .Mult (.v 3) (.v 1)) (.v 2)) .nil)))) .nil))), false, false⟩
def c__law_fraction : DefC := ⟨defArgs (top 34), defBody (top 34), defScope (top 34), ["top", "low", "part", "sign"], ["top", "low"], [], d__law_fraction⟩
def d__law_sum : Def := ⟨"_law_sum", 1, 5, (.cons (.asg (.tup (.cons (.v 1) (.cons (.v 2) .nil))) (.tup (.cons (.c (.int 0)) (.cons (.c (.int 1)) .nil)))) (.cons (.for (.tup (.cons (.v 3) (.cons (.v 4) .nil))) (.ex (.v 0)) (.cons (.asg (.tup (.cons (.v 1) (.cons (.v 2) .nil))) (.call "_law_fraction" (.cons (.bin .Add (.bin .Mult (.v 1) (.v 4)) (.bin .Mult (.v 3) (.v 2))) (.cons (.bin .Mult (.v 2) (.v 4)) .nil)))) .nil)) (.cons (.ret (.tup (.cons (.v 1) (.cons (.v 2) .nil)))) .nil))), false, false⟩
def c__law_sum : DefC := ⟨defArgs (top 35), defBody (top 35), defScope (top 35), ["some", "top", "low", "one", "other"], ["some"], [], d__law_sum⟩
def d__law_less : Def := ⟨"_law_less", 2, 2, (.cons (.ret (.cmp .Lt (.bin .Mult (.idx (.v 0) (.c (.int 0))) (.idx (.v 1) (.c (.int 1)))) (.bin .Mult (.idx (.v 1) (.c (.int 0))) (.idx (.v 0) (.c (.int 1)))))) .nil), false, false⟩
def c__law_less : DefC := ⟨defArgs (top 36), defBody (top 36), defScope (top 36), ["one", "other"], ["one", "other"], [], d__law_less⟩
def d__law_kind : Def := ⟨"_law_kind", 1, 1, (.cons (.ite (.isi (.v 0) [(.fn "NotStore"), (.fn "NotRow")]) (.cons (.ret (.ite (.isi (.v 0) [(.fn "NotStore")]) (.c (.str "!store")) (.c (.str "!row")))) .nil) .nil) (.cons (.ite (.isi (.v 0) [(.fn "NotRun"), (.fn "NotPaper")]) (.cons (.ret (.ite (.isi (.v 0) [(.fn "NotRun")]) (.c (.str "!run")) (.c (.str "!paper")))) .nil) .nil) (.cons (.ite (.isi (.v 0) [(.fn "NotBook"), (.fn "BadNumber")]) (.cons (.ret (.ite (.isi (.v 0) [(.fn "NotBook")]) (.c (.str "!book")) (.c (.str "!number")))) .nil) .nil) (.cons (.ite (.isi (.v 0) [(.fn "NoAnswer"), (.fn "TooLarge")]) (.cons (.ret (.ite (.isi (.v 0) [(.fn "NoAnswer")]) (.c (.str "!none")) (.c (.str "!large")))) .nil) .nil) (.cons (.ret (.ite (.isi (.v 0) [(.fn "Malformed")]) (.c (.str "!malformed")) (.c (.str "!other")))) .nil))))), false, true⟩
def c__law_kind : DefC := ⟨defArgs (top 37), defBody (top 37), defScope (top 37), ["error"], ["error"], [], d__law_kind⟩
def d__law_asked : Def := ⟨"_law_asked", 3, 4, (.cons (.try (.cons (.ret (.ite (.cmp .Eq (.v 0) (.c (.int 0))) (.call "fraction" (.cons (.v 1) (.cons (.v 2) .nil))) (.call "over" (.cons (.v 1) (.cons (.v 2) .nil))))) .nil) (.cons "DeedError" (some 3) (.cons (.ret (.call "_law_kind" (.cons (.v 3) .nil))) .nil) .nil)) .nil), false, false⟩
def c__law_asked : DefC := ⟨defArgs (top 38), defBody (top 38), defScope (top 38), ["way", "one", "other", "error"], ["way", "one", "other"], [], d__law_asked⟩
def d_law : Def := ⟨"law", 1, 16, (.cons (.asg (.v 1) (.call "_law_draws" (.cons (.v 0) .nil))) (.cons (.asg (.v 1) (.call "_law_more" (.cons (.v 1) (.cons (.c (.int 80)) .nil)))) (.cons (.asg (.v 2) (.mat (.lst .nil))) (.cons (.for (.v 3) (.range (.cons (.c (.int 6)) .nil)) (.cons (.par [4, 5] (.cons (.bin .Sub (.bin .Mod (.bi .int (.cons (.call "_law_next" (.cons (.v 1) .nil)) .nil)) (.c (.int 121))) (.c (.int 60))) (.cons (.bin .Add (.bin .Mod (.bi .int (.cons (.call "_law_next" (.cons (.v 1) .nil)) .nil)) (.c (.int 60))) (.c (.int 1))) .nil))) (.cons (.asg (.v 5) (.ite (.cmp .Eq (.bin .Mod (.bi .int (.cons (.call "_law_next" (.cons (.v 1) .nil)) .nil)) (.c (.int 2))) (.c (.int 0))) (.v 5) (.bin .Sub (.c (.int 0)) (.v 5)))) (.cons (.asg (.v 6) (.call "_law_asked" (.cons (.c (.int 0)) (.cons (.v 4) (.cons (.v 5) .nil))))) (.cons (.ite (.or (.cmp .NotEq (.v 6) (.call "_law_fraction" (.cons (.v 4) (.cons (.v 5) .nil)))) (.or (.cmp .Lt (.idx (.v 6) (.c (.int 1))) (.c (.int 1))) (.or (.cmp .NotEq (.bin .Mult (.idx (.v 6) (.c (.int 0))) (.v 5)) (.bin .Mult (.v 4) (.idx (.v 6) (.c (.int 1))))) (.cmp .IsNot (.call "is_fraction" (.cons (.v 6) .nil)) (.c (.bl true)))))) (.cons (.ret (.c (.bl false))) .nil) .nil) (.cons (.ite (.not (.bi .all (.cons (.comp [13, 14] (.or (.cmp .NotEq (.bi .int (.cons (.bin .Mod (.idx (.v 6) (.c (.int 0))) (.v 14)) .nil)) (.c (.int 0))) (.cmp .NotEq (.bi .int (.cons (.bin .Mod (.idx (.v 6) (.c (.int 1))) (.v 14)) .nil)) (.c (.int 0)))) (.range (.cons (.c (.int 2)) (.cons (.c (.int 61)) .nil))) (.one (.v 14) .none)) .nil))) (.cons (.ret (.c (.bl false))) .nil) .nil) (.cons (.ex (.meth .append (.v 2) (.cons (.v 6) .nil))) .nil))))))) (.cons (.for (.v 7) (.ex (.v 2)) (.cons (.for (.v 8) (.ex (.v 2)) (.cons (.par [9, 10, 5] (.cons (.bin .Mult (.idx (.v 7) (.c (.int 0))) (.idx (.v 8) (.c (.int 1)))) (.cons (.bin .Mult (.idx (.v 8) (.c (.int 0))) (.idx (.v 7) (.c (.int 1)))) (.cons (.bin .Mult (.idx (.v 7) (.c (.int 1))) (.idx (.v 8) (.c (.int 1)))) .nil)))) (.cons (.asg (.v 11) (.lst (.cons (.call "_law_fraction" (.cons (.bin .Add (.v 9) (.v 10)) (.cons (.v 5) .nil))) (.cons (.call "_law_fraction" (.cons (.bin .Sub (.v 9) (.v 10)) (.cons (.v 5) .nil))) (.cons (.call "_law_fraction" (.cons (.bin .Mult (.idx (.v 7) (.c (.int 0))) (.idx (.v 8) (.c (.int 0)))) (.cons (.v 5) .nil))) .nil))))) (.cons (.ite (.cmp .NotEq (.lst (.cons (.call "plus" (.cons (.v 7) (.cons (.v 8) .nil))) (.cons (.call "minus" (.cons (.v 7) (.cons (.v 8) .nil))) (.cons (.call "times" (.cons (.v 7) (.cons (.v 8) .nil))) .nil)))) (.v 11)) (.cons (.ret (.c (.bl false))) .nil) .nil) (.cons (.ite (.cmp .NotEq (.call "_law_asked" (.cons (.c (.int 1)) (.cons (.v 7) (.cons (.v 8) .nil)))) (.ite (.cmp .Eq (.idx (.v 8) (.c (.int 0))) (.c (.int 0))) (.c (.str "!number")) (.call "_law_fraction" (.cons (.v 9) (.cons (.v 10) .nil))))) (.cons (.ret (.c (.bl false))) .nil) .nil) (.cons (.ite (.cmp .NotEq (.bi .repr (.cons (.lst (.cons (.call "is_less" (.cons (.v 7) (.cons (.v 8) .nil))) (.cons (.call "is_at_least" (.cons (.v 7) (.cons (.v 8) .nil))) .nil))) .nil)) (.bi .repr (.cons (.lst (.cons (.cmp .Lt (.v 9) (.v 10)) (.cons (.cmp .GtE (.v 9) (.v 10)) .nil))) .nil))) (.cons (.ret (.c (.bl false))) .nil) .nil) .nil)))))) .nil)) (.cons (.ite (.or (.not (.bi .all (.cons (.comp [13, 7] (.and (.not (.call "_law_less" (.cons (.v 7) (.cons (.call "least" (.cons (.v 2) .nil)) .nil)))) (.not (.call "_law_less" (.cons (.call "greatest" (.cons (.v 2) .nil)) (.cons (.v 7) .nil))))) (.ex (.v 2)) (.one (.v 7) .none)) .nil))) (.or (.cmp .NotIn (.call "least" (.cons (.v 2) .nil)) (.v 2)) (.cmp .NotIn (.call "greatest" (.cons (.v 2) .nil)) (.v 2)))) (.cons (.ret (.c (.bl false))) .nil) .nil) (.cons (.ite (.or (.cmp .NotEq (.call "total" (.cons (.v 2) .nil)) (.call "_law_sum" (.cons (.v 2) .nil))) (.or (.cmp .NotEq (.call "total" (.cons (.lst .nil) .nil)) (.tup (.cons (.c (.int 0)) (.cons (.c (.int 1)) .nil)))) (.cmp .NotEq (.comp [13, 7] (.call "negative" (.cons (.v 7) .nil)) (.ex (.v 2)) (.one (.v 7) .none)) (.comp [13, 7] (.tup (.cons (.bin .Sub (.c (.int 0)) (.idx (.v 7) (.c (.int 0)))) (.cons (.idx (.v 7) (.c (.int 1))) .nil))) (.ex (.v 2)) (.one (.v 7) .none))))) (.cons (.ret (.c (.bl false))) .nil) .nil) (.cons (.asg (.v 12) (.lst (.cons (.c (.int 5)) (.cons (.tup .nil) (.cons (.tup (.cons (.c (.int 1)) .nil)) (.cons (.tup (.cons (.c (.int 1)) (.cons (.c (.int 0)) .nil))) (.cons (.tup (.cons (.c (.int 1)) (.cons (.neg (.c (.int 1))) .nil))) (.cons (.tup (.cons (.c (.int 2)) (.cons (.c (.int 4)) .nil))) (.cons (.tup (.cons (.c (.int 0)) (.cons (.c (.int 2)) .nil))) (.cons (.tup (.cons (.c (.str "a")) (.cons (.c (.int 1)) .nil))) (.cons (.tup (.cons (.c (.int 1)) (.cons (.c (.str "a")) .nil))) (.cons (.lst (.cons (.c (.int 1)) (.cons (.c (.int 1)) .nil))) (.cons (.tup (.cons (.c (.int 1)) (.cons (.c (.int 1)) (.cons (.c (.int 1)) .nil)))) (.cons (.c .non) .nil)))))))))))))) (.cons (.ite (.or (.cmp .NotEq (.comp [13, 15] (.call "is_fraction" (.cons (.v 15) .nil)) (.ex (.v 12)) (.one (.v 15) .none)) (.bin .Mult (.lst (.cons (.c (.bl false)) .nil)) (.c (.int 12)))) (.or (.cmp .NotEq (.call "whole" (.cons (.c (.int 7)) .nil)) (.tup (.cons (.c (.int 7)) (.cons (.c (.int 1)) .nil)))) (.or (.cmp .NotEq (.call "fraction" (.cons (.c (.int 6)) (.cons (.neg (.c (.int 4))) .nil))) (.tup (.cons (.neg (.c (.int 3))) (.cons (.c (.int 2)) .nil)))) (.cmp .NotEq (.call "fraction" (.cons (.c (.int 0)) (.cons (.neg (.c (.int 9))) .nil))) (.tup (.cons (.c (.int 0)) (.cons (.c (.int 1)) .nil))))))) (.cons (.ret (.c (.bl false))) .nil) .nil) (.cons (.ret (.cmp .Eq (.lst (.cons (.call "_law_asked" (.cons (.c (.int 0)) (.cons (.c (.int 1)) (.cons (.c (.int 0)) .nil)))) (.cons (.call "_law_asked" (.cons (.c (.int 0)) (.cons (.c (.str "a")) (.cons (.c (.int 1)) .nil)))) (.cons (.call "_law_asked" (.cons (.c (.int 0)) (.cons (.c (.int 1)) (.cons (.c (.str "a")) .nil)))) (.cons (.call "_law_asked" (.cons (.c (.int 1)) (.cons (.tup (.cons (.c (.int 1)) (.cons (.c (.int 1)) .nil))) (.cons (.tup (.cons (.c (.int 0)) (.cons (.c (.int 1)) .nil))) .nil)))) .nil))))) (.bin .Mult (.lst (.cons (.c (.str "!number")) .nil)) (.c (.int 4))))) .nil)))))))))), false, false⟩
def c_law : DefC := ⟨defArgs (top 39), defBody (top 39), defScope (top 39), ["script", "draws", "some", "turn", "top", "low", "told_v", "one", "other", "first", "second", "due", "wrong", ".0", "part", "term"], ["script"], ["draws", "some"], d_law⟩
def L : LawD where
  defs := [("common", c_common), ("told", c_told), ("fraction", c_fraction), ("is_fraction", c_is_fraction), ("whole", c_whole), ("plus", c_plus), ("minus", c_minus), ("times", c_times), ("over", c_over), ("negative", c_negative), ("is_less", c_is_less), ("is_at_least", c_is_at_least), ("least", c_least), ("greatest", c_greatest), ("total", c_total), ("_law_number", c__law_number), ("_law_draws", c__law_draws), ("_law_next", c__law_next), ("_law_more", c__law_more), ("_law_common", c__law_common), ("_law_fraction", c__law_fraction), ("_law_sum", c__law_sum), ("_law_less", c__law_less), ("_law_kind", c__law_kind), ("_law_asked", c__law_asked), ("law", c_law)]
  consts := [("ZERO", .tup [.int 0, .int 1])]
  excs := ["BadNumber"]
  clss := ["DeedError", "NotStore", "NotRow", "NotRun", "NotPaper", "NotBook", "NoAnswer", "TooLarge", "Malformed"]
  frees := ["abs", "isinstance", "int", "tuple", "len", "all", "range", "repr"]
  subs := [(("BadNumber", "DeedError"), true), (("BadNumber", "NotStore"), false), (("BadNumber", "NotRow"), false), (("BadNumber", "NotRun"), false), (("BadNumber", "NotPaper"), false), (("BadNumber", "NotBook"), false), (("BadNumber", "BadNumber"), true)]
theorem ok_common : c_common.Ok L.gl 60 := ⟨C8.fnScope_by (by decide +kernel), rfl, rfl, by kernel_rfl, fun h => nomatch h⟩
theorem bind_common : BindOk "common" c_common := fun _ _ _ _ _ _ us hl => match us, hl with | [_, _], _ => rfl
theorem ok_told : c_told.Ok L.gl 60 := ⟨C8.fnScope_by (by decide +kernel), rfl, rfl, by kernel_rfl, fun h => nomatch h⟩
theorem bind_told : BindOk "told" c_told := fun _ _ _ _ _ _ us hl => match us, hl with | [_, _], _ => rfl
theorem ok_fraction : c_fraction.Ok L.gl 60 := ⟨C8.fnScope_by (by decide +kernel), rfl, rfl, by kernel_rfl, fun h => nomatch h⟩
theorem bind_fraction : BindOk "fraction" c_fraction := fun _ _ _ _ _ _ us hl => match us, hl with | [_, _], _ => rfl
theorem ok_is_fraction : c_is_fraction.Ok L.gl 60 := ⟨C8.fnScope_by (by decide +kernel), rfl, rfl, by kernel_rfl, fun h => nomatch h⟩
theorem bind_is_fraction : BindOk "is_fraction" c_is_fraction := fun _ _ _ _ _ _ us hl => match us, hl with | [_], _ => rfl
theorem ok_whole : c_whole.Ok L.gl 60 := ⟨C8.fnScope_by (by decide +kernel), rfl, rfl, by kernel_rfl, fun h => nomatch h⟩
theorem bind_whole : BindOk "whole" c_whole := fun _ _ _ _ _ _ us hl => match us, hl with | [_], _ => rfl
theorem ok_plus : c_plus.Ok L.gl 60 := ⟨C8.fnScope_by (by decide +kernel), rfl, rfl, by kernel_rfl, fun h => nomatch h⟩
theorem bind_plus : BindOk "plus" c_plus := fun _ _ _ _ _ _ us hl => match us, hl with | [_, _], _ => rfl
theorem ok_minus : c_minus.Ok L.gl 60 := ⟨C8.fnScope_by (by decide +kernel), rfl, rfl, by kernel_rfl, fun h => nomatch h⟩
theorem bind_minus : BindOk "minus" c_minus := fun _ _ _ _ _ _ us hl => match us, hl with | [_, _], _ => rfl
theorem ok_times : c_times.Ok L.gl 60 := ⟨C8.fnScope_by (by decide +kernel), rfl, rfl, by kernel_rfl, fun h => nomatch h⟩
theorem bind_times : BindOk "times" c_times := fun _ _ _ _ _ _ us hl => match us, hl with | [_, _], _ => rfl
theorem ok_over : c_over.Ok L.gl 60 := ⟨C8.fnScope_by (by decide +kernel), rfl, rfl, by kernel_rfl, fun h => nomatch h⟩
theorem bind_over : BindOk "over" c_over := fun _ _ _ _ _ _ us hl => match us, hl with | [_, _], _ => rfl
theorem ok_negative : c_negative.Ok L.gl 60 := ⟨C8.fnScope_by (by decide +kernel), rfl, rfl, by kernel_rfl, fun h => nomatch h⟩
theorem bind_negative : BindOk "negative" c_negative := fun _ _ _ _ _ _ us hl => match us, hl with | [_], _ => rfl
theorem ok_is_less : c_is_less.Ok L.gl 60 := ⟨C8.fnScope_by (by decide +kernel), rfl, rfl, by kernel_rfl, fun h => nomatch h⟩
theorem bind_is_less : BindOk "is_less" c_is_less := fun _ _ _ _ _ _ us hl => match us, hl with | [_, _], _ => rfl
theorem ok_is_at_least : c_is_at_least.Ok L.gl 60 := ⟨C8.fnScope_by (by decide +kernel), rfl, rfl, by kernel_rfl, fun h => nomatch h⟩
theorem bind_is_at_least : BindOk "is_at_least" c_is_at_least := fun _ _ _ _ _ _ us hl => match us, hl with | [_, _], _ => rfl
theorem ok_least : c_least.Ok L.gl 60 := ⟨C8.fnScope_by (by decide +kernel), rfl, rfl, by kernel_rfl, fun h => nomatch h⟩
theorem bind_least : BindOk "least" c_least := fun _ _ _ _ _ _ us hl => match us, hl with | [_], _ => rfl
theorem ok_greatest : c_greatest.Ok L.gl 60 := ⟨C8.fnScope_by (by decide +kernel), rfl, rfl, by kernel_rfl, fun h => nomatch h⟩
theorem bind_greatest : BindOk "greatest" c_greatest := fun _ _ _ _ _ _ us hl => match us, hl with | [_], _ => rfl
theorem ok_total : c_total.Ok L.gl 60 := ⟨C8.fnScope_by (by decide +kernel), rfl, rfl, by kernel_rfl, fun h => nomatch h⟩
theorem bind_total : BindOk "total" c_total := fun _ _ _ _ _ _ us hl => match us, hl with | [_], _ => rfl
theorem ok__law_number : c__law_number.Ok L.gl 60 := ⟨C8.fnScope_by (by decide +kernel), rfl, rfl, by kernel_rfl, fun h => nomatch h⟩
theorem bind__law_number : BindOk "_law_number" c__law_number := fun _ _ _ _ _ _ us hl => match us, hl with | [_], _ => rfl
theorem ok__law_draws : c__law_draws.Ok L.gl 60 := ⟨C8.fnScope_by (by decide +kernel), rfl, rfl, by kernel_rfl, fun h => nomatch h⟩
theorem bind__law_draws : BindOk "_law_draws" c__law_draws := fun _ _ _ _ _ _ us hl => match us, hl with | [_], _ => rfl
theorem ok__law_next : c__law_next.Ok L.gl 60 := ⟨C8.fnScope_by (by decide +kernel), rfl, rfl, by kernel_rfl, fun h => nomatch h⟩
theorem bind__law_next : BindOk "_law_next" c__law_next := fun _ _ _ _ _ _ us hl => match us, hl with | [_], _ => rfl
theorem ok__law_more : c__law_more.Ok L.gl 60 := ⟨C8.fnScope_by (by decide +kernel), rfl, rfl, by kernel_rfl, fun h => nomatch h⟩
theorem bind__law_more : BindOk "_law_more" c__law_more := fun _ _ _ _ _ _ us hl => match us, hl with | [_, _], _ => rfl
theorem ok__law_common : c__law_common.Ok L.gl 60 := ⟨C8.fnScope_by (by decide +kernel), rfl, rfl, by kernel_rfl, fun h => nomatch h⟩
theorem bind__law_common : BindOk "_law_common" c__law_common := fun _ _ _ _ _ _ us hl => match us, hl with | [_, _], _ => rfl
theorem ok__law_fraction : c__law_fraction.Ok L.gl 60 := ⟨C8.fnScope_by (by decide +kernel), rfl, rfl, by kernel_rfl, fun h => nomatch h⟩
theorem bind__law_fraction : BindOk "_law_fraction" c__law_fraction := fun _ _ _ _ _ _ us hl => match us, hl with | [_, _], _ => rfl
theorem ok__law_sum : c__law_sum.Ok L.gl 60 := ⟨C8.fnScope_by (by decide +kernel), rfl, rfl, by kernel_rfl, fun h => nomatch h⟩
theorem bind__law_sum : BindOk "_law_sum" c__law_sum := fun _ _ _ _ _ _ us hl => match us, hl with | [_], _ => rfl
theorem ok__law_less : c__law_less.Ok L.gl 60 := ⟨C8.fnScope_by (by decide +kernel), rfl, rfl, by kernel_rfl, fun h => nomatch h⟩
theorem bind__law_less : BindOk "_law_less" c__law_less := fun _ _ _ _ _ _ us hl => match us, hl with | [_, _], _ => rfl
theorem ok__law_kind : c__law_kind.Ok L.gl 60 := ⟨C8.fnScope_by (by decide +kernel), rfl, rfl, by kernel_rfl, fun h => by kernel_rfl⟩
theorem bind__law_kind : BindOk "_law_kind" c__law_kind := fun _ _ _ _ _ _ us hl => match us, hl with | [_], _ => rfl
theorem ok__law_asked : c__law_asked.Ok L.gl 60 := ⟨C8.fnScope_by (by decide +kernel), rfl, rfl, by kernel_rfl, fun h => nomatch h⟩
theorem bind__law_asked : BindOk "_law_asked" c__law_asked := fun _ _ _ _ _ _ us hl => match us, hl with | [_, _, _], _ => rfl
theorem ok_law : c_law.Ok L.gl 60 := ⟨C8.fnScope_by (by decide +kernel), rfl, rfl, by kernel_rfl, fun h => nomatch h⟩
theorem bind_law : BindOk "law" c_law := fun _ _ _ _ _ _ us hl => match us, hl with | [_], _ => rfl
theorem wf : L.Wf 60 where
  defs := fun p hp => by
    simp only [L, List.mem_cons, List.not_mem_nil, or_false] at hp
    rcases hp with rfl | rfl | rfl | rfl | rfl | rfl | rfl | rfl | rfl | rfl | rfl | rfl | rfl | rfl | rfl | rfl | rfl | rfl | rfl | rfl | rfl | rfl | rfl | rfl | rfl | rfl
    · exact ⟨rfl, ok_common, bind_common⟩
    · exact ⟨rfl, ok_told, bind_told⟩
    · exact ⟨rfl, ok_fraction, bind_fraction⟩
    · exact ⟨rfl, ok_is_fraction, bind_is_fraction⟩
    · exact ⟨rfl, ok_whole, bind_whole⟩
    · exact ⟨rfl, ok_plus, bind_plus⟩
    · exact ⟨rfl, ok_minus, bind_minus⟩
    · exact ⟨rfl, ok_times, bind_times⟩
    · exact ⟨rfl, ok_over, bind_over⟩
    · exact ⟨rfl, ok_negative, bind_negative⟩
    · exact ⟨rfl, ok_is_less, bind_is_less⟩
    · exact ⟨rfl, ok_is_at_least, bind_is_at_least⟩
    · exact ⟨rfl, ok_least, bind_least⟩
    · exact ⟨rfl, ok_greatest, bind_greatest⟩
    · exact ⟨rfl, ok_total, bind_total⟩
    · exact ⟨rfl, ok__law_number, bind__law_number⟩
    · exact ⟨rfl, ok__law_draws, bind__law_draws⟩
    · exact ⟨rfl, ok__law_next, bind__law_next⟩
    · exact ⟨rfl, ok__law_more, bind__law_more⟩
    · exact ⟨rfl, ok__law_common, bind__law_common⟩
    · exact ⟨rfl, ok__law_fraction, bind__law_fraction⟩
    · exact ⟨rfl, ok__law_sum, bind__law_sum⟩
    · exact ⟨rfl, ok__law_less, bind__law_less⟩
    · exact ⟨rfl, ok__law_kind, bind__law_kind⟩
    · exact ⟨rfl, ok__law_asked, bind__law_asked⟩
    · exact ⟨rfl, ok_law, bind_law⟩
  subs := by decide +kernel
end K32

set_option maxRecDepth 100000
set_option maxHeartbeats 4000000
namespace K32
open PySem Pi PyProof.Rows
/-! ### plain Lean: what the law computes -/
def F : Nat := 10 ^ 100
def cfg : Cfg := L.cfg F
theorem fuel_ge {n : Nat} (h : n < 2 ^ 200) : n < F := Nat.lt_of_lt_of_le h (by unfold F; decide)
@[simp] theorem cfg_fuel : cfg.fuel = F := rfl
theorem g_common : cfg.get "common" = some d_common := by kernel_rfl
theorem g_told : cfg.get "told" = some d_told := by kernel_rfl
theorem g_fraction : cfg.get "fraction" = some d_fraction := by kernel_rfl
theorem g_is_fraction : cfg.get "is_fraction" = some d_is_fraction := by kernel_rfl
theorem g_whole : cfg.get "whole" = some d_whole := by kernel_rfl
theorem g_plus : cfg.get "plus" = some d_plus := by kernel_rfl
theorem g_minus : cfg.get "minus" = some d_minus := by kernel_rfl
theorem g_times : cfg.get "times" = some d_times := by kernel_rfl
theorem g_over : cfg.get "over" = some d_over := by kernel_rfl
theorem g_negative : cfg.get "negative" = some d_negative := by kernel_rfl
theorem g_is_less : cfg.get "is_less" = some d_is_less := by kernel_rfl
theorem g_is_at_least : cfg.get "is_at_least" = some d_is_at_least := by kernel_rfl
theorem g_least : cfg.get "least" = some d_least := by kernel_rfl
theorem g_greatest : cfg.get "greatest" = some d_greatest := by kernel_rfl
theorem g_total : cfg.get "total" = some d_total := by kernel_rfl
theorem g_number : cfg.get "_law_number" = some d__law_number := by kernel_rfl
theorem g_draws : cfg.get "_law_draws" = some d__law_draws := by kernel_rfl
theorem g_next : cfg.get "_law_next" = some d__law_next := by kernel_rfl
theorem g_more : cfg.get "_law_more" = some d__law_more := by kernel_rfl
theorem g_lcommon : cfg.get "_law_common" = some d__law_common := by kernel_rfl
theorem g_lfraction : cfg.get "_law_fraction" = some d__law_fraction := by kernel_rfl
theorem g_lsum : cfg.get "_law_sum" = some d__law_sum := by kernel_rfl
theorem g_lless : cfg.get "_law_less" = some d__law_less := by kernel_rfl
theorem g_kind : cfg.get "_law_kind" = some d__law_kind := by kernel_rfl
theorem g_asked : cfg.get "_law_asked" = some d__law_asked := by kernel_rfl
theorem g_law : cfg.get "law" = some d_law := by kernel_rfl
/-! ### gcd -/
abbrev bCommon : SL := .cons (.par [0, 1] (.cons (.v 1) (.cons (.bin .Mod (.v 0) (.v 1)) .nil))) .nil
theorem common_loop (cx : Ct) : ∀ (n : Nat) (a b : Nat) (s : Sto), b < n →
    loopWhile (tstE cx (.v 1)) (exSs cx bCommon) n [some (.int a), some (.int b)] s = .nx [some (.int (Nat.gcd a b)), some (.int 0)] s
  | 0, a, b, s, h => absurd h (Nat.not_lt_zero _)
  | n + 1, a, b, s, h => by
    unfold loopWhile
    by_cases hb : b = 0
    · subst hb
      simp [tstE]
    · have hb' : (0 : Int) < b := by omega
      have e1 : tstE cx (.v 1) [some (.int a), some (.int b)] s = .ok true s := by simp [tstE, hb]
      have e2 : exSs cx bCommon [some (.int a), some (.int b)] s = .nx [some (.int b), some (.int ((a % b : Nat) : Int))] s := by
        simp [b_mod hb', parS]
      simp only [e1, e2]
      rw [common_loop cx n b (a % b) s (Nat.lt_of_lt_of_le (Nat.mod_lt a (Nat.pos_of_ne_zero hb)) (Nat.le_of_lt_succ h))]
      rw [Nat.gcd_comm a b, Nat.gcd_rec b a, Nat.gcd_comm]
theorem run_common (k : Nat) (s : Sto) (a b : Int) (h : b.natAbs < 2 ^ 200) : run cfg (k + 1) none "common" [.int a, .int b] s = .ok (.int (Int.gcd a b)) s := by
  rw [run_def d_common g_common rfl (by decide) (.inl rfl)]
  have : exSs (cfg.ct (run cfg k) none) d_common.body (startE d_common [.int a, .int b]) s = .rt (.int (Int.gcd a b)) s := by
    simp [d_common, startE, parS]
    rw [common_loop _ F _ _ s (fuel_ge h)]
    simp [Int.gcd]
  rw [this]
  exact finish_rt rfl
theorem log2_lt {n k : Nat} (hk : 0 < k) (h : n < 2 ^ k) : n.log2 < k := by
  by_cases h0 : n = 0
  · subst h0; simpa using hk
  · exact (Nat.log2_lt h0).mpr h
theorem gcd_pos {a b : Int} (hb : b ≠ 0) : 0 < Int.gcd a b := Int.gcd_pos_of_ne_zero_right a hb
theorem div_ok {a b : Int} (hb : b ≠ 0) (h : b.natAbs < 2 ^ 200) : divOk (Int.gcd a b) = true := by
  have h1 := gcd_pos (a := a) hb
  have h2 : Int.gcd a b ≤ b.natAbs := Nat.le_of_dvd (by omega) (by unfold Int.gcd; exact Nat.gcd_dvd_right _ _)
  have h3 := log2_lt (k := 200) (by decide) (Nat.lt_of_le_of_lt h2 h)
  simp only [divOk, Bool.and_eq_true, decide_eq_true_eq, Int.natAbs_natCast]
  omega
def sg (b : Int) : Int := if b < 0 then -1 else 1
def tI (a b : Int) : Int := sg b * a / Int.gcd a b
def lI (a b : Int) : Int := sg b * b / Int.gcd a b
abbrev fr (n d : Int) : D := .tup [.int n, .int d]
theorem run_told (k : Nat) (s : Sto) (a b : Int) (hb : b ≠ 0) (h : b.natAbs < 2 ^ 200) : run cfg (k + 2) none "told" [.int a, .int b] s = .ok (fr (tI a b) (lI a b)) s := by
  rw [run_def d_told g_told rfl (by decide) (.inl rfl)]
  have : exSs (cfg.ct (run cfg (k + 1)) none) d_told.body (startE d_told [.int a, .int b]) s = .rt (fr (tI a b) (lI a b)) s := by
    have hd := div_ok (a := a) hb h
    by_cases hn : b < 0
    · have h' : (-b).natAbs < 2 ^ 200 := by rw [Int.natAbs_neg]; exact h
      simp [d_told, startE, parS, hn, run_common k s (-a) (-b) h', Int.gcd_neg, Int.neg_gcd, b_div hd, calm_none, tI, lI, sg]
    · simp [d_told, startE, parS, hn, run_common k s a b h, b_div hd, calm_none, tI, lI, sg]
  rw [this]
  exact finish_rt rfl
/-! ### the law's own gcd -/
abbrev bLC : SL := .cons (.ite (.cmp .Eq (.v 1) (.c (.int 0))) (.cons (.ret (.ite (.cmp .Gt (.v 0) (.c (.int 0))) (.v 0) (.c (.int 1)))) .nil) .nil) (.cons (.par [0, 1] (.cons (.v 1) (.cons (.bi .int (.cons (.bin .Mod (.v 0) (.v 1)) .nil)) .nil))) .nil)
theorem lc_turn (cx : Ct) (t : D) (ts : List D) (a b : Nat) (o : Option D) (s : Sto) (hb : 0 < b) :
    loopFor [] (evG cx (.v 2)) (exSs cx bLC) (t :: ts) [some (.int a), some (.int b), o] s = loopFor [] (evG cx (.v 2)) (exSs cx bLC) ts [some (.int b), some (.int ((a % b : Nat) : Int)), some t] s := by
  have hb' : (0 : Int) < b := by omega
  have hb2 : b ≠ 0 := by omega
  have e2 : exSs cx bLC [some (.int a), some (.int b), some t] s = .nx [some (.int b), some (.int ((a % b : Nat) : Int)), some t] s := by
    simp [b_mod hb', parS, hb2]
  rw [loopFor]
  simp [held, e2]
theorem lc_end (cx : Ct) (t : D) (ts : List D) (a : Nat) (o : Option D) (s : Sto) (ha : 0 < a) :
    loopFor [] (evG cx (.v 2)) (exSs cx bLC) (t :: ts) [some (.int a), some (.int 0), o] s = .rt (.int a) s := by
  have e2 : exSs cx bLC [some (.int a), some (.int 0), some t] s = .rt (.int a) s := by
    simp [ha]
  rw [loopFor]
  simp [held, e2]
theorem half {b r : Nat} (h : r < b) (hr : 0 < r) : 2 * (b % r) < b := by
  have h1 := Nat.mod_lt b hr
  have h2 := Nat.div_add_mod b r
  have h3 : 1 ≤ b / r := Nat.div_pos (by omega) hr
  have h4 : r * 1 ≤ r * (b / r) := Nat.mul_le_mul_left r h3
  omega
theorem lc_loop (cx : Ct) : ∀ (j a b : Nat) (ts : List D) (o : Option D) (s : Sto), b < 2 ^ j → 2 * j + 1 ≤ ts.length → 0 < Nat.gcd a b →
    loopFor [] (evG cx (.v 2)) (exSs cx bLC) ts [some (.int a), some (.int b), o] s = .rt (.int (Nat.gcd a b)) s
  | 0, a, b, t :: ts, o, s, h, _, hg => by
    have : b = 0 := by omega
    subst this
    rw [Nat.gcd_zero_right] at hg ⊢
    exact lc_end cx t ts a o s hg
  | j + 1, a, b, t :: t2 :: ts, o, s, h, hl, hg => by
    by_cases hb : b = 0
    · subst hb
      rw [Nat.gcd_zero_right] at hg ⊢
      exact lc_end cx t _ a o s hg
    · rw [lc_turn cx t _ a b o s (Nat.pos_of_ne_zero hb)]
      have e1 : Nat.gcd a b = Nat.gcd b (a % b) := by rw [Nat.gcd_comm a b, Nat.gcd_rec b a, Nat.gcd_comm]
      by_cases hr : a % b = 0
      · rw [e1, hr, Nat.gcd_zero_right]
        exact lc_end cx t2 ts b _ s (Nat.pos_of_ne_zero hb)
      · rw [lc_turn cx t2 _ b (a % b) _ s (Nat.pos_of_ne_zero hr)]
        have e2 : Nat.gcd b (a % b) = Nat.gcd (a % b) (b % (a % b)) := by rw [Nat.gcd_comm b, Nat.gcd_rec (a % b) b, Nat.gcd_comm]
        rw [e1, e2]
        have hh := half (Nat.mod_lt a (Nat.pos_of_ne_zero hb)) (Nat.pos_of_ne_zero hr)
        refine lc_loop cx j _ _ ts _ s (by rw [Nat.pow_succ] at h; omega) (by simp at hl; omega) ?_
        rw [← e2, ← e1]; exact hg
  | 0, _, _, [], _, _, _, hl, _ => by simp at hl
  | _ + 1, _, _, [], _, _, _, hl, _ => by simp at hl
  | _ + 1, _, _, [_], _, _, _, hl, _ => by simp at hl
theorem run_lcommon (k : Nat) (s : Sto) (a b : Int) (hb : b ≠ 0) (h : b.natAbs < 2 ^ 190) : run cfg (k + 1) none "_law_common" [.int a, .int b] s = .ok (.int (Int.gcd a b)) s := by
  rw [run_def d__law_common g_lcommon rfl (by decide) (.inl rfl)]
  have : exSs (cfg.ct (run cfg k) none) d__law_common.body (startE d__law_common [.int a, .int b]) s = .rt (.int (Int.gcd a b)) s := by
    simp [d__law_common, startE, parS, rangeK, rangeD, small62]
    rw [lc_loop _ 190 _ _ _ _ s h (by simp [rangeOf]) (gcd_pos (a := a) hb)]
    simp [Int.gcd]
  rw [this]
  exact finish_rt rfl
theorem mul_sg (a b : Int) (h : a.natAbs < 2 ^ 200) : mulOk (sg b) a = true := by
  have := log2_lt (k := 200) (by decide) h
  have h1 : (sg b).natAbs.log2 = 0 := by unfold sg; split <;> decide
  simp only [mulOk, decide_eq_true_eq, h1]
  omega
theorem up {n : Nat} (h : n < 2 ^ 190) : n < 2 ^ 200 := Nat.lt_of_lt_of_le h (by decide)
theorem run_lfraction (k : Nat) (s : Sto) (a b : Int) (hb : b ≠ 0) (h : b.natAbs < 2 ^ 190) (ha : a.natAbs < 2 ^ 190) : run cfg (k + 2) none "_law_fraction" [.int a, .int b] s = .ok (fr (tI a b) (lI a b)) s := by
  rw [run_def d__law_fraction g_lfraction rfl (by decide) (.inl rfl)]
  have : exSs (cfg.ct (run cfg (k + 1)) none) d__law_fraction.body (startE d__law_fraction [.int a, .int b]) s = .rt (fr (tI a b) (lI a b)) s := by
    have hd := div_ok (a := a) hb (up h)
    by_cases hn : b < 0
    · have e : ¬ 0 < b := by omega
      have e1 : sg b = -1 := by simp [sg, hn]
      have m1 := mul_sg a b (up ha)
      have m2 := mul_sg b b (up h)
      rw [e1] at m1 m2
      simp [d__law_fraction, startE, run_lcommon k s a b hb h, e, b_div hd, b_mul m1, b_mul m2, calm_none, tI, lI, e1]
    · have e : 0 < b := by omega
      have e1 : sg b = 1 := by simp [sg, hn]
      have m1 := mul_sg a b (up ha)
      have m2 := mul_sg b b (up h)
      rw [e1] at m1 m2
      simp [d__law_fraction, startE, run_lcommon k s a b hb h, e, b_div hd, b_mul m1, b_mul m2, calm_none, tI, lI, e1]
  rw [this]
  exact finish_rt rfl
/-! ### the program's sums -/
theorem mul_lt {a b : Int} (h1 : a.natAbs < 2 ^ 90) (h2 : b.natAbs < 2 ^ 90) : (a * b).natAbs < 2 ^ 180 := by
  rw [Int.natAbs_mul]
  exact Nat.lt_of_lt_of_le (Nat.mul_lt_mul'' h1 h2) (by decide)
theorem mul_ok {a b : Int} (h1 : a.natAbs < 2 ^ 90) (h2 : b.natAbs < 2 ^ 90) : mulOk a b = true := by
  have q1 := log2_lt (k := 90) (by decide) h1
  have q2 := log2_lt (k := 90) (by decide) h2
  simp only [mulOk, decide_eq_true_eq]
  omega
theorem lift {n : Nat} (h : n < 2 ^ 180) : n < 2 ^ 200 := Nat.lt_of_lt_of_le h (by decide)
theorem lift' {n : Nat} (h : n < 2 ^ 180) : n < 2 ^ 190 := Nat.lt_of_lt_of_le h (by decide)
theorem at0 {α : Type} (x y : α) : L2.atI [x, y] 0 = some x := by simp [L2.atI, L2.ixN]
theorem at1 {α : Type} (x y : α) : L2.atI [x, y] 1 = some y := by simp [L2.atI, L2.ixN]
theorem run_plus (k : Nat) (s : Sto) {n d n' d' : Int} (h : d * d' ≠ 0) (h1 : n.natAbs < 2 ^ 90) (h2 : d.natAbs < 2 ^ 90) (h3 : n'.natAbs < 2 ^ 90) (h4 : d'.natAbs < 2 ^ 90) :
    run cfg (k + 3) none "plus" [fr n d, fr n' d'] s = .ok (fr (tI (n * d' + n' * d) (d * d')) (lI (n * d' + n' * d) (d * d'))) s := by
  rw [run_def d_plus g_plus rfl (by decide) (.inl rfl)]
  have : exSs (cfg.ct (run cfg (k + 2)) none) d_plus.body (startE d_plus [fr n d, fr n' d']) s = .rt (fr (tI (n * d' + n' * d) (d * d')) (lI (n * d' + n' * d) (d * d'))) s := by
    simp [d_plus, startE, at0, at1, b_mul (mul_ok h1 h4), b_mul (mul_ok h3 h2), b_mul (mul_ok h2 h4), run_told k s _ _ h (lift (mul_lt h2 h4))]
  rw [this]
  exact finish_rt rfl
theorem run_minus (k : Nat) (s : Sto) {n d n' d' : Int} (h : d * d' ≠ 0) (h1 : n.natAbs < 2 ^ 90) (h2 : d.natAbs < 2 ^ 90) (h3 : n'.natAbs < 2 ^ 90) (h4 : d'.natAbs < 2 ^ 90) :
    run cfg (k + 3) none "minus" [fr n d, fr n' d'] s = .ok (fr (tI (n * d' - n' * d) (d * d')) (lI (n * d' - n' * d) (d * d'))) s := by
  rw [run_def d_minus g_minus rfl (by decide) (.inl rfl)]
  have : exSs (cfg.ct (run cfg (k + 2)) none) d_minus.body (startE d_minus [fr n d, fr n' d']) s = .rt (fr (tI (n * d' - n' * d) (d * d')) (lI (n * d' - n' * d) (d * d'))) s := by
    simp [d_minus, startE, at0, at1, b_mul (mul_ok h1 h4), b_mul (mul_ok h3 h2), b_mul (mul_ok h2 h4), run_told k s _ _ h (lift (mul_lt h2 h4))]
  rw [this]
  exact finish_rt rfl
theorem run_times (k : Nat) (s : Sto) {n d n' d' : Int} (h : d * d' ≠ 0) (h1 : n.natAbs < 2 ^ 90) (h2 : d.natAbs < 2 ^ 90) (h3 : n'.natAbs < 2 ^ 90) (h4 : d'.natAbs < 2 ^ 90) :
    run cfg (k + 3) none "times" [fr n d, fr n' d'] s = .ok (fr (tI (n * n') (d * d')) (lI (n * n') (d * d'))) s := by
  rw [run_def d_times g_times rfl (by decide) (.inl rfl)]
  have : exSs (cfg.ct (run cfg (k + 2)) none) d_times.body (startE d_times [fr n d, fr n' d']) s = .rt (fr (tI (n * n') (d * d')) (lI (n * n') (d * d'))) s := by
    simp [d_times, startE, at0, at1, b_mul (mul_ok h1 h3), b_mul (mul_ok h2 h4), run_told k s _ _ h (lift (mul_lt h2 h4))]
  rw [this]
  exact finish_rt rfl
abbrev bad : Exc := ⟨"BadNumber", []⟩
@[simp] theorem mk_bad (m : Str) : cfg.mkx "BadNumber" [.str m] = some bad := by
  show L.mkx "BadNumber" [.str m] = _
  unfold LawD.mkx
  exact if_pos (by decide +kernel)
theorem R_bad (c : Option Exc → Str → List D → Sto → Res D) (hd : Option Exc) (e : Pi.Env) (s : Sto) (m : Str) : exS (cfg.ct c hd) (.raise "BadNumber" (.cons (.c (.str m)) .nil)) e s = .exc e bad s := by
  rw [R_raise, ct_mkx, mk_bad]
theorem run_over (k : Nat) (s : Sto) {n d n' d' : Int} (hd : d ≠ 0) (h1 : n.natAbs < 2 ^ 90) (h2 : d.natAbs < 2 ^ 90) (h3 : n'.natAbs < 2 ^ 90) (h4 : d'.natAbs < 2 ^ 90) :
    run cfg (k + 3) none "over" [fr n d, fr n' d'] s = if n' = 0 then .exc bad s else .ok (fr (tI (n * d') (d * n')) (lI (n * d') (d * n'))) s := by
  rw [run_def d_over g_over rfl (by decide) (.inl rfl)]
  by_cases hn : n' = 0
  · have : exSs (cfg.ct (run cfg (k + 2)) none) d_over.body (startE d_over [fr n d, fr n' d']) s = .exc [some (fr n d), some (fr n' d')] bad s := by
      simp [d_over, startE, at0, at1, hn, R_bad]
    rw [this, if_pos hn]
    exact finish_exc
  · have : exSs (cfg.ct (run cfg (k + 2)) none) d_over.body (startE d_over [fr n d, fr n' d']) s = .rt (fr (tI (n * d') (d * n')) (lI (n * d') (d * n'))) s := by
      simp [d_over, startE, at0, at1, hn, b_mul (mul_ok h1 h4), b_mul (mul_ok h2 h3), run_told k s _ _ (Int.mul_ne_zero hd hn) (lift (mul_lt h2 h3))]
    rw [this, if_neg hn]
    exact finish_rt rfl
@[simp] theorem is_int (hd : Option Exc) (sub : Str → Str → Option Bool) (s : Sto) (i : Int) : isiD hd sub s (.int i) [.ty "int"] = some true := by simp [isiD, tyOf, tyKnown]
@[simp] theorem is_int_str (hd : Option Exc) (sub : Str → Str → Option Bool) (s : Sto) (i : Str) : isiD hd sub s (.str i) [.ty "int"] = some false := by simp [isiD, tyOf, tyKnown]
theorem run_fraction (k : Nat) (s : Sto) (a b : Int) (h : b.natAbs < 2 ^ 200) : run cfg (k + 3) none "fraction" [.int a, .int b] s = if b = 0 then .exc bad s else .ok (fr (tI a b) (lI a b)) s := by
  rw [run_def d_fraction g_fraction rfl (by decide) (.inl rfl)]
  by_cases hn : b = 0
  · have : exSs (cfg.ct (run cfg (k + 2)) none) d_fraction.body (startE d_fraction [.int a, .int b]) s = .exc [some (.int a), some (.int b)] bad s := by
      simp [d_fraction, startE, hn, R_bad]
    rw [this, if_pos hn]
    exact finish_exc
  · have : exSs (cfg.ct (run cfg (k + 2)) none) d_fraction.body (startE d_fraction [.int a, .int b]) s = .rt (fr (tI a b) (lI a b)) s := by
      simp [d_fraction, startE, hn, run_told k s a b hn h]
    rw [this, if_neg hn]
    exact finish_rt rfl
theorem run_fraction_s1 (k : Nat) (s : Sto) (a : Str) (b : Int) : run cfg (k + 3) none "fraction" [.str a, .int b] s = .exc bad s := by
  rw [run_def d_fraction g_fraction rfl (by decide) (.inl rfl)]
  have : exSs (cfg.ct (run cfg (k + 2)) none) d_fraction.body (startE d_fraction [.str a, .int b]) s = .exc [some (.str a), some (.int b)] bad s := by
    simp [d_fraction, startE, R_bad]
  rw [this]
  exact finish_exc
theorem run_fraction_s2 (k : Nat) (s : Sto) (a : Int) (b : Str) : run cfg (k + 3) none "fraction" [.int a, .str b] s = .exc bad s := by
  rw [run_def d_fraction g_fraction rfl (by decide) (.inl rfl)]
  have : exSs (cfg.ct (run cfg (k + 2)) none) d_fraction.body (startE d_fraction [.int a, .str b]) s = .exc [some (.int a), some (.str b)] bad s := by
    simp [d_fraction, startE, R_bad]
  rw [this]
  exact finish_exc
/-! ### the errors -/
theorem sub_t1 : cfg.sub "BadNumber" "DeedError" = some true := by kernel_rfl
theorem sub_1 : cfg.sub "BadNumber" "NotStore" = some false := by kernel_rfl
theorem sub_2 : cfg.sub "BadNumber" "NotRow" = some false := by kernel_rfl
theorem sub_3 : cfg.sub "BadNumber" "NotRun" = some false := by kernel_rfl
theorem sub_4 : cfg.sub "BadNumber" "NotPaper" = some false := by kernel_rfl
theorem sub_5 : cfg.sub "BadNumber" "NotBook" = some false := by kernel_rfl
theorem sub_6 : cfg.sub "BadNumber" "BadNumber" = some true := by kernel_rfl
theorem run_kind (k : Nat) (s : Sto) : run cfg (k + 1) (some bad) "_law_kind" [.exn] s = .ok (.str "!number") s := by
  rw [run_def d__law_kind g_kind rfl (by decide) (.inr rfl)]
  have : exSs (cfg.ct (run cfg k) (some bad)) d__law_kind.body (startE d__law_kind [.exn]) s = .rt (.str "!number") s := by
    simp [d__law_kind, startE, isiD, tyOf, sub_1, sub_2, sub_3, sub_4, sub_5, sub_6]
  rw [this]
  exact finish_rt rfl
/-- what _law_asked makes of it -/
def askedR (r : Res D) (s : Sto) : Res D := match r with
  | .ok d _ => .ok d s
  | _ => .ok (.str "!number") s
theorem run_asked (k : Nat) (s : Sto) (w : Int) (a b : D) (r : Res D) (hr : (if w = 0 then run cfg (k + 3) none "fraction" [a, b] s else run cfg (k + 3) none "over" [a, b] s) = r) (hok : (∃ d, r = .ok d s ∧ d.pl = true) ∨ r = .exc bad s) :
    run cfg (k + 4) none "_law_asked" [.int w, a, b] s = askedR r s := by
  rw [run_def d__law_asked g_asked rfl (by decide) (.inl rfl)]
  rcases hok with ⟨d, rfl, hp⟩ | rfl
  · have : exSs (cfg.ct (run cfg (k + 3)) none) d__law_asked.body (startE d__law_asked [.int w, a, b]) s = .rt d s := by
      by_cases hw : w = 0
      · rw [if_pos hw] at hr
        simp [d__law_asked, startE, tryR, hw, hr]
      · rw [if_neg hw] at hr
        simp [d__law_asked, startE, tryR, hw, hr]
    rw [this]
    exact finish_rt hp
  · have : exSs (cfg.ct (run cfg (k + 3)) none) d__law_asked.body (startE d__law_asked [.int w, a, b]) s = .rt (.str "!number") s := by
      have kd := run_kind (k + 2) s
      by_cases hw : w = 0
      · rw [if_pos hw] at hr
        simp [d__law_asked, startE, tryR, hw, hr, sub_t1, endSuite, kd]
      · rw [if_neg hw] at hr
        simp [d__law_asked, startE, tryR, hw, hr, sub_t1, endSuite, kd]
    rw [this]
    exact finish_rt rfl
/-! ### what a fraction is -/
theorem sizeL : (1000 : Nat) ≤ sizeLine := by rw [sizeLine_eq]; decide
theorem run_negative (k : Nat) (s : Sto) (n d : Int) : run cfg (k + 1) none "negative" [fr n d] s = .ok (fr (-n) d) s := by
  rw [run_def d_negative g_negative rfl (by decide) (.inl rfl)]
  have : exSs (cfg.ct (run cfg k) none) d_negative.body (startE d_negative [fr n d]) s = .rt (fr (-n) d) s := by
    simp [d_negative, startE, at0, at1, calm_none]
  rw [this]
  exact finish_rt rfl
theorem run_whole (k : Nat) (s : Sto) (n : Int) : run cfg (k + 1) none "whole" [.int n] s = .ok (fr n 1) s := by
  rw [run_def d_whole g_whole rfl (by decide) (.inl rfl)]
  have : exSs (cfg.ct (run cfg k) none) d_whole.body (startE d_whole [.int n]) s = .rt (fr n 1) s := by
    simp [d_whole, startE, calm_none]
  rw [this]
  exact finish_rt rfl
theorem run_is_less (k : Nat) (s : Sto) {n d n' d' : Int} (h1 : n.natAbs < 2 ^ 90) (h2 : d.natAbs < 2 ^ 90) (h3 : n'.natAbs < 2 ^ 90) (h4 : d'.natAbs < 2 ^ 90) :
    run cfg (k + 1) none "is_less" [fr n d, fr n' d'] s = .ok (.bl (decide (n * d' < n' * d))) s := by
  rw [run_def d_is_less g_is_less rfl (by decide) (.inl rfl)]
  have : exSs (cfg.ct (run cfg k) none) d_is_less.body (startE d_is_less [fr n d, fr n' d']) s = .rt (.bl (decide (n * d' < n' * d))) s := by
    simp [d_is_less, startE, at0, at1, b_mul (mul_ok h1 h4), b_mul (mul_ok h3 h2)]
  rw [this]
  exact finish_rt rfl
theorem run_lless (k : Nat) (s : Sto) {n d n' d' : Int} (h1 : n.natAbs < 2 ^ 90) (h2 : d.natAbs < 2 ^ 90) (h3 : n'.natAbs < 2 ^ 90) (h4 : d'.natAbs < 2 ^ 90) :
    run cfg (k + 1) none "_law_less" [fr n d, fr n' d'] s = .ok (.bl (decide (n * d' < n' * d))) s := by
  rw [run_def d__law_less g_lless rfl (by decide) (.inl rfl)]
  have : exSs (cfg.ct (run cfg k) none) d__law_less.body (startE d__law_less [fr n d, fr n' d']) s = .rt (.bl (decide (n * d' < n' * d))) s := by
    simp [d__law_less, startE, at0, at1, b_mul (mul_ok h1 h4), b_mul (mul_ok h3 h2)]
  rw [this]
  exact finish_rt rfl
theorem run_is_at_least (k : Nat) (s : Sto) {n d n' d' : Int} (h1 : n.natAbs < 2 ^ 90) (h2 : d.natAbs < 2 ^ 90) (h3 : n'.natAbs < 2 ^ 90) (h4 : d'.natAbs < 2 ^ 90) :
    run cfg (k + 1) none "is_at_least" [fr n d, fr n' d'] s = .ok (.bl (decide (n' * d ≤ n * d'))) s := by
  rw [run_def d_is_at_least g_is_at_least rfl (by decide) (.inl rfl)]
  have : exSs (cfg.ct (run cfg k) none) d_is_at_least.body (startE d_is_at_least [fr n d, fr n' d']) s = .rt (.bl (decide (n' * d ≤ n * d'))) s := by
    simp [d_is_at_least, startE, at0, at1, b_mul (mul_ok h1 h4), b_mul (mul_ok h3 h2)]
  rw [this]
  exact finish_rt rfl
@[simp] theorem is_tup (hd : Option Exc) (sub : Str → Str → Option Bool) (s : Sto) (ds : List D) : isiD hd sub s (.tup ds) [.ty "tuple"] = some true := by simp [isiD, tyOf, tyKnown]
def isInt : D → Bool
  | .int _ => true
  | .bl _ => true
  | _ => false
theorem is_intD (hd : Option Exc) (sub : Str → Str → Option Bool) (s : Sto) (d : D) (h : d.pl = true) : isiD hd sub s d [.ty "int"] = some (isInt d) := by
  cases d <;> first | (simp [isiD, tyOf, tyKnown, isInt]; done) | (cases h; done)
theorem pl_mem : ∀ (ds : List D), plAll ds = true → ∀ d ∈ ds, d.pl = true
  | [], _, d, h => by cases h
  | d :: ds, h, e, he => by
    simp only [plAll, Bool.and_eq_true] at h
    rcases List.mem_cons.mp he with rfl | he
    · exact h.1
    · exact pl_mem ds h.2 e he
theorem isf_comp (cx : Ct) (s : Sto) (ds : List D) (hl : ds.length ≤ 1000) (hp : plAll ds = true) :
    compR (evI cx (.ex (.v 0))) (evG cx (.v 2)) (evT cx .none) (evE cx (.isi (.v 2) [(.ty "int")])) [1, 2] [some (.tup ds), none, none] s = .ok (.lst (ds.map fun d => .bl (isInt d))) s :=
  compR_map (ds := ds) (gd := []) (fun d => .bl (isInt d)) (by simp [itemsOf, seqOf, guardOf]) rfl (Nat.le_trans hl sizeL) fun d hd => ⟨[some (.tup ds), none, some d], by simp [wipeE], by simp, by simp [is_intD _ _ _ _ (pl_mem ds hp d hd)]⟩
theorem run_isf (k : Nat) (s : Sto) (ds : List D) (hl : ds.length ≤ 1000) (hp : plAll ds = true) (h2 : ds.length ≠ 2 ∨ ds.all isInt = false) : run cfg (k + 2) none "is_fraction" [.tup ds] s = .ok (.bl false) s := by
  rw [run_def d_is_fraction g_is_fraction rfl (by decide) (.inl rfl)]
  have hc := isf_comp (cfg.ct (run cfg (k + 1)) none) s ds hl hp
  have : exSs (cfg.ct (run cfg (k + 1)) none) d_is_fraction.body (startE d_is_fraction [.tup ds]) s = .rt (.bl false) s := by
    by_cases hl2 : ds.length = 2
    · have h3 : ds.all isInt = false := h2.resolve_left (fun z => z hl2)
      simp [d_is_fraction, startE, hc, D_all, h3, hl2]
    · have : ¬ ((ds.length : Int) = 2) := by omega
      simp [d_is_fraction, startE, this]
  rw [this]
  exact finish_rt rfl
theorem run_isf_int (k : Nat) (s : Sto) (n d : Int) (h : d.natAbs < 2 ^ 200) : run cfg (k + 2) none "is_fraction" [fr n d] s = .ok (.bl (decide (0 < d) && decide ((Int.gcd n d : Int) = 1))) s := by
  rw [run_def d_is_fraction g_is_fraction rfl (by decide) (.inl rfl)]
  have hc := isf_comp (cfg.ct (run cfg (k + 1)) none) s [.int n, .int d] (by simp) rfl
  have ha : biD .all s [.lst [.bl true, .bl true]] = some (.bl true) := rfl
  have : exSs (cfg.ct (run cfg (k + 1)) none) d_is_fraction.body (startE d_is_fraction [fr n d]) s = .rt (.bl (decide (0 < d) && decide ((Int.gcd n d : Int) = 1))) s := by
    by_cases hd : 0 < d
    · simp [d_is_fraction, startE, hc, ha, isInt, at0, at1, run_common k s n d h, hd]
    · simp [d_is_fraction, startE, hc, ha, isInt, at0, at1, run_common k s n d h, hd]
  rw [this]
  exact finish_rt rfl
theorem run_isf_no (k : Nat) (s : Sto) (d : D) (hp : d.pl = true) (h : ∀ ds, d ≠ .tup ds) : run cfg (k + 2) none "is_fraction" [d] s = .ok (.bl false) s := by
  rw [run_def d_is_fraction g_is_fraction rfl (by decide) (.inl rfl)]
  have hi : isiD none cfg.sub s d [.ty "tuple"] = some false := by
    cases d <;> first | (simp [isiD, tyOf, tyKnown]; done) | (cases hp; done) | exact absurd rfl (h _)
  have : exSs (cfg.ct (run cfg (k + 1)) none) d_is_fraction.body (startE d_is_fraction [d]) s = .rt (.bl false) s := by
    simp [d_is_fraction, startE, hi]
  rw [this]
  exact finish_rt rfl
end K32

set_option maxRecDepth 100000
set_option maxHeartbeats 4000000
namespace K32
open PySem Pi PyProof.Rows
/-! ### lists of fractions -/
abbrev Q := Int × Int
abbrev frq (q : Q) : D := fr q.1 q.2
def Bd (q : Q) : Prop := q.1.natAbs < 2 ^ 90 ∧ q.2.natAbs < 2 ^ 90
theorem list_cases {s : Sto} {d : D} {ds : List D} (h : Pi.listOf s d = some ds) : d = .lst ds ∨ ∃ n, d = .ref n ∧ s[n]? = some (.lst ds) := by
  unfold Pi.listOf at h
  split at h
  · cases h; exact .inl rfl
  · rename_i n
    split at h
    · rename_i es hs; cases h; exact .inr ⟨n, rfl, hs⟩
    · cases h
  · cases h
theorem idx_list {s : Sto} {d : D} {ds : List D} {i : Int} (h : Pi.listOf s d = some ds) : idxD s d (.int i) = L2.atI ds i := by
  rcases list_cases h with rfl | ⟨n, rfl, hs⟩
  · rfl
  · simp [idxD, seqOf, h]
theorem cut_list {s : Sto} {d : D} {ds : List D} {lo hi : Option Int} (h : Pi.listOf s d = some ds) : cutAt s d lo hi = some (.lst (Pi.cutD ds lo hi)) := by
  rcases list_cases h with rfl | ⟨n, rfl, hs⟩
  · rfl
  · simp [cutAt, h]
theorem items_list {s : Sto} {d : D} {ds : List D} (h : Pi.listOf s d = some ds) : itemsOf s d = some ds ∧ held (guardOf s d) s = true := by
  rcases list_cases h with rfl | ⟨n, rfl, hs⟩
  · exact ⟨rfl, rfl⟩
  · exact ⟨by simp [itemsOf, seqOf, h], by simp [guardOf, hs, held]⟩
theorem cut1 (x : D) (ds : List D) : Pi.cutD (x :: ds) (some 1) none = ds := by
  simp [Pi.cutD, HT.sIx]
theorem at00 {α : Type} (x : α) (ys : List α) : L2.atI (x :: ys) 0 = some x := by simp [L2.atI, L2.ixN]
/-- q is less than r -/
def ltQ (q r : Q) : Bool := decide (q.1 * r.2 < r.1 * q.2)
def leastF : Q → List Q → Q
  | f, [] => f
  | f, o :: qs => leastF (if ltQ o f then o else f) qs
def greatF : Q → List Q → Q
  | f, [] => f
  | f, o :: qs => greatF (if ltQ f o then o else f) qs
abbrev bLeast : SL := .cons (.asg (.v 1) (.ite (.call "is_less" (.cons (.v 2) (.cons (.v 1) .nil))) (.v 2) (.v 1))) .nil
theorem least_loop (k : Nat) (d : D) (s : Sto) : ∀ (qs : List Q) (f : Q) (o : Option D), Bd f → (∀ q ∈ qs, Bd q) →
    ∃ o', loopFor [] (evG (cfg.ct (run cfg (k + 1)) none) (.v 2)) (exSs (cfg.ct (run cfg (k + 1)) none) bLeast) (qs.map frq) [some d, some (frq f), o] s = .nx [some d, some (frq (leastF f qs)), o'] s
  | [], f, o, _, _ => ⟨o, by simp [loopFor, held, leastF]⟩
  | q :: qs, f, o, hf, hq => by
    have h1 := hq q List.mem_cons_self
    obtain ⟨o', e⟩ := least_loop k d s qs (if ltQ q f then q else f) (some (frq q)) (by split <;> assumption) fun r hr => hq r (List.mem_cons_of_mem _ hr)
    refine ⟨o', ?_⟩
    rw [leastF, ← e, List.map_cons, loopFor]
    have hl := run_is_less k s h1.1 h1.2 hf.1 hf.2
    by_cases c : q.1 * f.2 < f.1 * q.2
    · simp [held, hl, c, ltQ]
    · simp [held, hl, c, ltQ]
theorem run_least (k : Nat) (s : Sto) (d : D) (q : Q) (qs : List Q) (hd : Pi.listOf s d = some ((q :: qs).map frq)) (hb : ∀ r ∈ q :: qs, Bd r) : run cfg (k + 2) none "least" [d] s = .ok (frq (leastF q qs)) s := by
  rw [run_def d_least g_least rfl (by decide) (.inl rfl)]
  obtain ⟨o', e⟩ := least_loop k d s qs q none (hb q List.mem_cons_self) fun r hr => hb r (List.mem_cons_of_mem _ hr)
  have : exSs (cfg.ct (run cfg (k + 1)) none) d_least.body (startE d_least [d]) s = .rt (frq (leastF q qs)) s := by
    simp only [List.map_cons] at hd
    simp [d_least, startE, idx_list hd, cut_list hd, at00, cut1, itemsOf, seqOf, Pi.listOf, guardOf]
    rw [e]
    simp
  rw [this]
  exact finish_rt rfl
abbrev bGreat : SL := .cons (.asg (.v 1) (.ite (.call "is_less" (.cons (.v 1) (.cons (.v 2) .nil))) (.v 2) (.v 1))) .nil
theorem great_loop (k : Nat) (d : D) (s : Sto) : ∀ (qs : List Q) (f : Q) (o : Option D), Bd f → (∀ q ∈ qs, Bd q) →
    ∃ o', loopFor [] (evG (cfg.ct (run cfg (k + 1)) none) (.v 2)) (exSs (cfg.ct (run cfg (k + 1)) none) bGreat) (qs.map frq) [some d, some (frq f), o] s = .nx [some d, some (frq (greatF f qs)), o'] s
  | [], f, o, _, _ => ⟨o, by simp [loopFor, held, greatF]⟩
  | q :: qs, f, o, hf, hq => by
    have h1 := hq q List.mem_cons_self
    obtain ⟨o', e⟩ := great_loop k d s qs (if ltQ f q then q else f) (some (frq q)) (by split <;> assumption) fun r hr => hq r (List.mem_cons_of_mem _ hr)
    refine ⟨o', ?_⟩
    rw [greatF, ← e, List.map_cons, loopFor]
    have hl := run_is_less k s hf.1 hf.2 h1.1 h1.2
    by_cases c : f.1 * q.2 < q.1 * f.2
    · simp [held, hl, c, ltQ]
    · simp [held, hl, c, ltQ]
theorem run_great (k : Nat) (s : Sto) (d : D) (q : Q) (qs : List Q) (hd : Pi.listOf s d = some ((q :: qs).map frq)) (hb : ∀ r ∈ q :: qs, Bd r) : run cfg (k + 2) none "greatest" [d] s = .ok (frq (greatF q qs)) s := by
  rw [run_def d_greatest g_greatest rfl (by decide) (.inl rfl)]
  obtain ⟨o', e⟩ := great_loop k d s qs q none (hb q List.mem_cons_self) fun r hr => hb r (List.mem_cons_of_mem _ hr)
  have : exSs (cfg.ct (run cfg (k + 1)) none) d_greatest.body (startE d_greatest [d]) s = .rt (frq (greatF q qs)) s := by
    simp only [List.map_cons] at hd
    simp [d_greatest, startE, idx_list hd, cut_list hd, at00, cut1, itemsOf, seqOf, Pi.listOf, guardOf]
    rw [e]
    simp
  rw [this]
  exact finish_rt rfl
/-! ### sums of lists -/
def addQ (f o : Q) : Q := (tI (f.1 * o.2 + o.1 * f.2) (f.2 * o.2), lI (f.1 * o.2 + o.1 * f.2) (f.2 * o.2))
def sumF : Q → List Q → Q
  | f, [] => f
  | f, o :: qs => sumF (addQ f o) qs
/-- within these bounds at the i-th -/
def At (i : Nat) (q : Q) : Prop := q.1.natAbs ≤ 120 ^ i ∧ 0 < q.2 ∧ q.2.natAbs ≤ 120 ^ i
def Small (q : Q) : Prop := q.1.natAbs ≤ 60 ∧ 0 < q.2 ∧ q.2.natAbs ≤ 60
theorem tI_le {a b : Int} (hb : 0 < b) : (tI a b).natAbs ≤ a.natAbs ∧ 0 < lI a b ∧ (lI a b).natAbs ≤ b.natAbs := by
  have e : sg b = 1 := by unfold sg; rw [if_neg (by omega)]
  have hg : 0 < Int.gcd a b := gcd_pos (by omega)
  obtain ⟨c, hc⟩ := Int.gcd_dvd_left a b
  obtain ⟨d, hd⟩ := Int.gcd_dvd_right a b
  have hgi : (Int.gcd a b : Int) ≠ 0 := by omega
  have e1 : tI a b = c := by
    unfold tI; rw [e, Int.one_mul]
    exact Int.ediv_eq_of_eq_mul_right hgi hc
  have e2 : lI a b = d := by
    unfold lI; rw [e, Int.one_mul]
    exact Int.ediv_eq_of_eq_mul_right hgi hd
  have n1 : a.natAbs = Int.gcd a b * c.natAbs := by
    have := congrArg Int.natAbs hc
    rwa [Int.natAbs_mul, Int.natAbs_natCast] at this
  have n2 : b.natAbs = Int.gcd a b * d.natAbs := by
    have := congrArg Int.natAbs hd
    rwa [Int.natAbs_mul, Int.natAbs_natCast] at this
  have hd0 : 0 < d := by
    refine Classical.byContradiction fun z => ?_
    have : (Int.gcd a b : Int) * d ≤ 0 := Int.mul_nonpos_of_nonneg_of_nonpos (by omega) (by omega)
    omega
  rw [e1, e2]
  refine ⟨?_, hd0, ?_⟩
  · rw [n1]; exact Nat.le_mul_of_pos_left _ hg
  · rw [n2]; exact Nat.le_mul_of_pos_left _ hg
theorem add_at {i : Nat} {f o : Q} (h : At i f) (ho : Small o) : At (i + 1) (addQ f o) := by
  obtain ⟨h1, h2, h3⟩ := h
  obtain ⟨o1, o2, o3⟩ := ho
  have hp : 0 < f.2 * o.2 := Int.mul_pos h2 o2
  obtain ⟨q1, q2, q3⟩ := tI_le (a := f.1 * o.2 + o.1 * f.2) hp
  have e1 : (f.1 * o.2 + o.1 * f.2).natAbs ≤ 120 ^ (i + 1) := by
    have a1 : (f.1 * o.2).natAbs ≤ 120 ^ i * 60 := by rw [Int.natAbs_mul]; exact Nat.mul_le_mul h1 o3
    have a2 : (o.1 * f.2).natAbs ≤ 60 * 120 ^ i := by rw [Int.natAbs_mul]; exact Nat.mul_le_mul o1 h3
    have a3 := Int.natAbs_add_le (f.1 * o.2) (o.1 * f.2)
    rw [Nat.pow_succ]; omega
  have e2 : (f.2 * o.2).natAbs ≤ 120 ^ (i + 1) := by
    have a1 : (f.2 * o.2).natAbs ≤ 120 ^ i * 60 := by rw [Int.natAbs_mul]; exact Nat.mul_le_mul h3 o3
    rw [Nat.pow_succ]; omega
  exact ⟨Nat.le_trans q1 e1, q2, Nat.le_trans q3 e2⟩
theorem At.bd {i : Nat} {q : Q} (h : At i q) (hi : i ≤ 10) : Bd q := by
  have : 120 ^ i ≤ 120 ^ 10 := Nat.pow_le_pow_right (by decide) hi
  have z : (120 : Nat) ^ 10 < 2 ^ 90 := by decide
  exact ⟨by have := h.1; omega, by have := h.2.2; omega⟩
theorem Small.bd {q : Q} (h : Small q) : Bd q := ⟨Nat.lt_of_le_of_lt h.1 (by decide), Nat.lt_of_le_of_lt h.2.2 (by decide)⟩
abbrev bTotal : SL := .cons (.asg (.v 1) (.call "plus" (.cons (.v 1) (.cons (.v 2) .nil)))) .nil
theorem total_loop (k : Nat) (d : D) (s : Sto) (gd : Gd) (hh : held gd s = true) : ∀ (qs : List Q) (i : Nat) (f : Q) (o : Option D), At i f → i + qs.length ≤ 10 → (∀ q ∈ qs, Small q) →
    ∃ o', loopFor gd (evG (cfg.ct (run cfg (k + 3)) none) (.v 2)) (exSs (cfg.ct (run cfg (k + 3)) none) bTotal) (qs.map frq) [some d, some (frq f), o] s = .nx [some d, some (frq (sumF f qs)), o'] s
  | [], i, f, o, _, _, _ => ⟨o, by simp [loopFor, hh, sumF]⟩
  | q :: qs, i, f, o, hf, hi, hq => by
    have h1 := hq q List.mem_cons_self
    have hi' : i + 1 + qs.length ≤ 10 := by simp at hi; omega
    obtain ⟨o', e⟩ := total_loop k d s gd hh qs (i + 1) (addQ f q) (some (frq q)) (add_at hf h1) hi' fun r hr => hq r (List.mem_cons_of_mem _ hr)
    refine ⟨o', ?_⟩
    rw [sumF, ← e, List.map_cons, loopFor]
    have b1 := hf.bd (by omega)
    have b2 := h1.bd
    have hp : f.2 * q.2 ≠ 0 := Int.ne_of_gt (Int.mul_pos hf.2.1 h1.2.1)
    simp [hh, run_plus k s hp b1.1 b1.2 b2.1 b2.2, addQ]
theorem run_total (k : Nat) (s : Sto) (d : D) (qs : List Q) (hd : Pi.listOf s d = some (qs.map frq)) (hl : qs.length ≤ 10) (hb : ∀ r ∈ qs, Small r) : run cfg (k + 4) none "total" [d] s = .ok (frq (sumF (0, 1) qs)) s := by
  rw [run_def d_total g_total rfl (by decide) (.inl rfl)]
  obtain ⟨i1, i2⟩ := items_list hd
  obtain ⟨o', e⟩ := total_loop k d s _ i2 qs 0 (0, 1) none ⟨by decide, by decide, by decide⟩ (by omega) hb
  have : exSs (cfg.ct (run cfg (k + 3)) none) d_total.body (startE d_total [d]) s = .rt (frq (sumF (0, 1) qs)) s := by
    simp [d_total, startE, i1]
    rw [show (D.tup [.int 0, .int 1]) = frq (0, 1) from rfl, e]
    simp
  rw [this]
  exact finish_rt rfl
abbrev bSum : SL := .cons (.asg (.tup (.cons (.v 1) (.cons (.v 2) .nil))) (.call "_law_fraction" (.cons (.bin .Add (.bin .Mult (.v 1) (.v 4)) (.bin .Mult (.v 3) (.v 2))) (.cons (.bin .Mult (.v 2) (.v 4)) .nil)))) .nil
theorem sum_loop (k : Nat) (d : D) (s : Sto) (gd : Gd) (hh : held gd s = true) : ∀ (qs : List Q) (i : Nat) (f : Q) (o o2 : Option D), At i f → i + qs.length ≤ 10 → (∀ q ∈ qs, Small q) →
    ∃ o' o2', loopFor gd (evG (cfg.ct (run cfg (k + 2)) none) (.tup (.cons (.v 3) (.cons (.v 4) .nil)))) (exSs (cfg.ct (run cfg (k + 2)) none) bSum) (qs.map frq) [some d, some (.int f.1), some (.int f.2), o, o2] s = .nx [some d, some (.int (sumF f qs).1), some (.int (sumF f qs).2), o', o2'] s
  | [], i, f, o, o2, _, _, _ => ⟨o, o2, by simp [loopFor, hh, sumF]⟩
  | q :: qs, i, f, o, o2, hf, hi, hq => by
    have h1 := hq q List.mem_cons_self
    have hi' : i + 1 + qs.length ≤ 10 := by simp at hi; omega
    obtain ⟨o', o2', e⟩ := sum_loop k d s gd hh qs (i + 1) (addQ f q) (some (.int q.1)) (some (.int q.2)) (add_at hf h1) hi' fun r hr => hq r (List.mem_cons_of_mem _ hr)
    refine ⟨o', o2', ?_⟩
    rw [sumF, ← e, List.map_cons, loopFor]
    have b1 := hf.bd (by omega)
    have b2 := h1.bd
    have hp : f.2 * q.2 ≠ 0 := Int.ne_of_gt (Int.mul_pos hf.2.1 h1.2.1)
    have n1 : (f.2 * q.2).natAbs < 2 ^ 190 := lift' (mul_lt b1.2 b2.2)
    have n2 : (f.1 * q.2 + q.1 * f.2).natAbs < 2 ^ 190 := by
      have a1 := mul_lt b1.1 b2.2
      have a2 := mul_lt b2.1 b1.2
      have a3 := Int.natAbs_add_le (f.1 * q.2) (q.1 * f.2)
      have a4 : (2 : Nat) ^ 180 + 2 ^ 180 ≤ 2 ^ 190 := by decide
      omega
    simp [hh, b_mul (mul_ok b1.1 b2.2), b_mul (mul_ok b2.1 b1.2), b_mul (mul_ok b1.2 b2.2), run_lfraction k s _ _ hp n1 n2, addQ]
theorem run_lsum (k : Nat) (s : Sto) (d : D) (qs : List Q) (hd : Pi.listOf s d = some (qs.map frq)) (hl : qs.length ≤ 10) (hb : ∀ r ∈ qs, Small r) : run cfg (k + 3) none "_law_sum" [d] s = .ok (frq (sumF (0, 1) qs)) s := by
  rw [run_def d__law_sum g_lsum rfl (by decide) (.inl rfl)]
  obtain ⟨i1, i2⟩ := items_list hd
  obtain ⟨o', o2', e⟩ := sum_loop k d s _ i2 qs 0 (0, 1) none none ⟨by decide, by decide, by decide⟩ (by omega) hb
  have : exSs (cfg.ct (run cfg (k + 2)) none) d__law_sum.body (startE d__law_sum [d]) s = .rt (frq (sumF (0, 1) qs)) s := by
    simp [d__law_sum, startE, i1, calm_none]
    rw [e]
    simp [calm_none]
  rw [this]
  exact finish_rt rfl
end K32

set_option maxRecDepth 100000
set_option maxHeartbeats 4000000
namespace K32
open PySem Pi PyProof.Rows
/-! ### draws -/
abbrev intL (is : List Int) : List D := is.map .int
theorem intL_cl (n : Nat) : ∀ is : List Int, clAll n (intL is) = true
  | [] => rfl
  | i :: is => by simp only [intL, List.map_cons, clAll, D.cl, Bool.true_and]; exact intL_cl n is
theorem backOk_set {s : Sto} {i : Nat} {ds : List D} (h : clAll s.length ds = true) : backOk s (s.set i (.lst ds)) = true := by
  simp only [backOk, List.length_set, Nat.le_refl, decide_true, Bool.true_and, List.all_eq_true, List.mem_range, Bool.or_eq_true, decide_eq_true_eq]
  intro j hj
  by_cases e : i = j
  · subst e
    right
    rw [List.getElem?_set_self hj]
    exact h
  · left; rw [List.getElem?_set_ne e]
theorem leave_set {s : Sto} {fresh : Bool} {d : D} {i : Nat} {ds : List D} (hd : d.pl = true) (h : clAll s.length ds = true) : leave s fresh d (s.set i (.lst ds)) = .ok d (s.set i (.lst ds)) := by
  unfold leave
  rw [if_pos (backOk_set h), if_pos hd, List.take_of_length_le (by simp)]
def lastD (is : List Int) : Int := is.getLastD 0
def popS (s : Sto) (i : Nat) (is : List Int) : Sto := s.set i (.lst (intL is.dropLast))
theorem run_next (k : Nat) (s : Sto) (i : Nat) (is : List Int) (h : s[i]? = some (.lst (intL is))) : run cfg (k + 1) none "_law_next" [.ref i] s = .ok (.int (lastD is)) (popS s i is) := by
  rw [run_def d__law_next g_next rfl (by decide) (.inl rfl)]
  have hl : Pi.listOf s (.ref i) = some (intL is) := by simp [Pi.listOf, h]
  have ht : truth s (.ref i) = some (!(intL is).isEmpty) := by simp [truth, seqOf, hl]
  rcases List.eq_nil_or_concat is with rfl | ⟨xs, x, rfl⟩
  · have e : popS s i [] = s := by
      unfold popS
      have hi := (List.getElem?_eq_some_iff.mp h)
      obtain ⟨h1, h2⟩ := hi
      rw [show intL ([] : List Int).dropLast = intL [] from rfl, ← h2, List.set_getElem_self]
    have : exSs (cfg.ct (run cfg k) none) d__law_next.body (startE d__law_next [.ref i]) s = .rt (.int 0) s := by
      simp [d__law_next, startE, ht]
    rw [this, e]
    exact finish_rt rfl
  · have : exSs (cfg.ct (run cfg k) none) d__law_next.body (startE d__law_next [.ref i]) s = .rt (.int x) (popS s i (xs ++ [x])) := by
      simp [d__law_next, startE, ht, isRef, methD, h, methL, popS]
    rw [List.concat_eq_append, this]
    have e : lastD (xs ++ [x]) = x := by simp [lastD]
    rw [e]
    exact leave_set rfl (intL_cl _ _)
def Ok (j : Int) : Prop := 0 ≤ j ∧ j < 1000
theorem last_ok {is : List Int} (h : ∀ j ∈ is, Ok j) : Ok (lastD is) := by
  rcases List.eq_nil_or_concat is with rfl | ⟨xs, x, rfl⟩
  · exact ⟨by decide, by decide⟩
  · rw [List.concat_eq_append]
    have : lastD (xs ++ [x]) = x := by simp [lastD]
    rw [this]
    exact h x (by simp)
theorem drop_ok {is : List Int} (h : ∀ j ∈ is, Ok j) : ∀ j ∈ is.dropLast, Ok j := fun j hj => h j (List.dropLast_subset _ hj)
theorem run_number (k : Nat) (s : Sto) (c : Int) : run cfg (k + 1) none "_law_number" [.int c] s = .ok (.int c.natAbs) s := by
  rw [run_def d__law_number g_number rfl (by decide) (.inl rfl)]
  have : exSs (cfg.ct (run cfg k) none) d__law_number.body (startE d__law_number [.int c]) s = .rt (.int c.natAbs) s := by
    by_cases h : c < 0
    · have e : (0 : Int) - c = c.natAbs := by omega
      simp [d__law_number, startE, h]
      omega
    · simp [d__law_number, startE, h]
      omega
  rw [this]
  exact finish_rt rfl
theorem d1000 : divOk 1000 = true := by decide +kernel
theorem d7 : divOk 7 = true := by decide +kernel
theorem mod_ok (i : Int) : Ok (i % 1000) := ⟨Int.emod_nonneg _ (by decide), Int.emod_lt_of_pos _ (by decide)⟩
theorem app_ok {js : List Int} {j : Int} (h : ∀ j ∈ js, Ok j) (hj : Ok j) : ∀ i ∈ js ++ [j], Ok i := fun i hi => by
  rcases List.mem_append.mp hi with z | z
  · exact h i z
  · rw [List.mem_singleton.mp z]; exact hj
theorem lt_line {n : Nat} (h : n < 10000) : n < sizeLine := by rw [sizeLine_eq]; omega
abbrev bIn : SL := .cons (.ite (.cmp .Eq (.v 3) (.c (.int 0))) (.cons .brk .nil) .nil) (.cons (.ex (.meth .append (.v 1) (.cons (.bin .Mod (.bi .int (.cons (.v 3) .nil)) (.c (.int 1000))) .nil))) (.cons (.asg (.v 3) (.bin .FloorDiv (.v 3) (.c (.int 1000)))) .nil))
theorem in_loop (cx : Ct) (d0 d2 : D) (o5 o6 : Option D) : ∀ (ts : List D) (js : List Int) (r : Int) (o4 : Option D), (∀ j ∈ js, Ok j) → js.length + ts.length < 10000 →
    ∃ js' r' o4', (∀ j ∈ js', Ok j) ∧ js'.length ≤ js.length + ts.length ∧
      loopFor [] (evG cx (.v 4)) (exSs cx bIn) ts [some d0, some (.ref 0), some d2, some (.int r), o4, o5, o6] [.lst (intL js)] = .nx [some d0, some (.ref 0), some d2, some (.int r'), o4', o5, o6] [.lst (intL js')]
  | [], js, r, o4, hj, _ => ⟨js, r, o4, hj, by simp, by simp [loopFor, held]⟩
  | t :: ts, js, r, o4, hj, hl => by
    by_cases hr : r = 0
    · refine ⟨js, r, some t, hj, by simp, ?_⟩
      rw [loopFor]
      simp [held, hr]
    · obtain ⟨js', r', o4', h1, h2, h3⟩ := in_loop cx d0 d2 o5 o6 ts (js ++ [r % 1000]) (r / 1000) (some t) (app_ok hj (mod_ok r)) (by simp at hl ⊢; omega)
      refine ⟨js', r', o4', h1, by simp at h2 ⊢; omega, ?_⟩
      rw [← h3, loopFor]
      have hz : js.length < sizeLine := lt_line (by omega)
      simp [held, hr, isRef, methD, methL, hz, b_mod, b_div d1000]
abbrev bOut : SL := .cons (.asg (.v 3) (.call "_law_number" (.cons (.v 2) .nil))) (.cons (.ite (.cmp .GtE (.v 3) (.c (.int 1000000000000000000))) (.cons (.for (.v 4) (.range (.cons (.c (.int 60)) .nil)) bIn) .nil) (.cons (.asg (.v 5) (.bin .Mod (.bi .int (.cons (.bin .Add (.bin .Mult (.v 3) (.c (.int 48271))) (.c (.int 11))) .nil)) (.c (.int 2147483647)))) (.cons (.asg (.v 6) (.bin .Mod (.bi .int (.cons (.bin .Add (.bin .Mult (.v 5) (.c (.int 69621))) (.v 3)) .nil)) (.c (.int 2147483629)))) (.cons (.ex (.meth .extend (.v 1) (.cons (.lst (.cons (.bin .Mod (.bi .int (.cons (.v 3) .nil)) (.c (.int 1000))) (.cons (.bin .Mod (.bi .int (.cons (.v 5) .nil)) (.c (.int 1000))) (.cons (.bin .Mod (.bi .int (.cons (.v 6) .nil)) (.c (.int 1000))) .nil)))) .nil))) .nil)))) .nil)
theorem small_mul {a b : Int} (h1 : a.natAbs < 2 ^ 90) (h2 : b.natAbs < 2 ^ 90) : mulOk a b = true := mul_ok h1 h2
theorem out_loop (k : Nat) (d0 : D) : ∀ (cs : List Int) (js : List Int) (o2 o3 o4 o5 o6 : Option D), (∀ j ∈ js, Ok j) → js.length + 60 * cs.length < 10000 →
    ∃ js' o2' o3' o4' o5' o6', (∀ j ∈ js', Ok j) ∧ js'.length ≤ js.length + 60 * cs.length ∧
      loopFor [] (evG (cfg.ct (run cfg (k + 1)) none) (.v 2)) (exSs (cfg.ct (run cfg (k + 1)) none) bOut) (intL cs) [some d0, some (.ref 0), o2, o3, o4, o5, o6] [.lst (intL js)] = .nx [some d0, some (.ref 0), o2', o3', o4', o5', o6'] [.lst (intL js')]
  | [], js, o2, o3, o4, o5, o6, hj, _ => ⟨js, o2, o3, o4, o5, o6, hj, by simp, by simp [loopFor, held]⟩
  | c :: cs, js, o2, o3, o4, o5, o6, hj, hl => by
    by_cases hc : (1000000000000000000 : Int) ≤ c.natAbs
    · obtain ⟨ja, r', o4', a1, a2, a3⟩ := in_loop (cfg.ct (run cfg (k + 1)) none) d0 (.int c) o5 o6 (rangeOf 0 60) js (c.natAbs : Int) o4 hj (by simp [rangeOf] at hl ⊢; omega)
      have hlen : (rangeOf 0 60).length = 60 := by simp [rangeOf]
      rw [hlen] at a2
      obtain ⟨js', p2, p3, p4, p5, p6, b1, b2, b3⟩ := out_loop k d0 cs ja (some (.int c)) (some (.int r')) o4' o5 o6 a1 (by simp at hl; omega)
      refine ⟨js', p2, p3, p4, p5, p6, b1, by simp at hl ⊢; omega, ?_⟩
      rw [← b3, show intL (c :: cs) = .int c :: intL cs from rfl, loopFor]
      have hr : rangeK [.int 60] [Ob.lst (intL js)] = .ok (rangeOf 0 60, []) [Ob.lst (intL js)] := by simp [rangeK, rangeD, small62]
      simp only [held, List.all_nil, if_true, Q_gv, R_cons, R_asg, Q_call, Q_cons, Q_nil, ct_call, ct_hd]
      simp [run_number, hc, hr, a3]
    · have hs : ((c.natAbs : Nat) : Int).natAbs < 2 ^ 90 := by
        have : c.natAbs < 1000000000000000000 := by omega
        rw [Int.natAbs_natCast]; exact Nat.lt_trans this (by decide)
      generalize hA : ((c.natAbs : Int) * 48271 + 11) % 2147483647 = A
      have hA1 : A.natAbs < 2 ^ 90 := by
        have h1 : 0 ≤ A := by rw [← hA]; exact Int.emod_nonneg _ (by decide)
        have h2 : A < 2147483647 := by rw [← hA]; exact Int.emod_lt_of_pos _ (by decide)
        have : A.natAbs < 2147483647 := by omega
        exact Nat.lt_trans this (by decide)
      generalize hB : (A * 69621 + (c.natAbs : Int)) % 2147483629 = B
      obtain ⟨js', p2, p3, p4, p5, p6, b1, b2, b3⟩ := out_loop k d0 cs (js ++ [(c.natAbs : Int) % 1000, A % 1000, B % 1000]) (some (.int c)) (some (.int c.natAbs)) o4 (some (.int A)) (some (.int B))
        (fun i hi => by
          rcases List.mem_append.mp hi with z | z
          · exact hj i z
          · simp only [List.mem_cons, List.not_mem_nil, or_false] at z
            rcases z with rfl | rfl | rfl <;> exact mod_ok _) (by simp at hl ⊢; omega)
      refine ⟨js', p2, p3, p4, p5, p6, b1, by simp at b2 hl ⊢; omega, ?_⟩
      rw [← b3, show intL (c :: cs) = .int c :: intL cs from rfl, loopFor]
      have hz : js.length + 3 ≤ sizeLine := Nat.le_of_lt (lt_line (by rw [List.length_cons] at hl; omega))
      simp only [held, List.all_nil, if_true, Q_gv, R_cons, R_asg, Q_call, Q_cons, Q_nil, ct_call, ct_hd]
      simp [run_number, hc, small_mul hs (show (48271 : Int).natAbs < 2 ^ 90 by decide), b_mul, b_mod, hA, small_mul hA1 (show (69621 : Int).natAbs < 2 ^ 90 by decide), hB, isRef, methD, methL, calm_none, Pi.listOf, hz]
theorem resolve_ints (s : Sto) (n f : Nat) (bad : Option Nat) : ∀ is : List Int, (intL is).mapM (resolve s n bad (f + 1)) = some (intL is)
  | [] => rfl
  | i :: is => by
    rw [show intL (i :: is) = .int i :: intL is from rfl, List.mapM_cons, resolve_ints s n f bad is]
    rfl
theorem run_draws (k : Nat) (is : List Int) (h : is.length ≤ 63) : ∃ js, (∀ j ∈ js, Ok j) ∧ js.length < 5000 ∧ run cfg (k + 2) none "_law_draws" [.scr is] [] = .ok (.ref 0) [.lst (intL js)] := by
  obtain ⟨js, o2, o3, o4, o5, o6, h1, h2, h3⟩ := out_loop k (.scr is) is [] none none none none none (fun j hj => by cases hj) (by simp; omega)
  refine ⟨js.reverse, fun j hj => h1 j (List.mem_reverse.mp hj), by simp at h2 ⊢; omega, ?_⟩
  rw [run_def d__law_draws g_draws rfl (by decide) (.inl rfl)]
  have : exSs (cfg.ct (run cfg (k + 1)) none) d__law_draws.body (startE d__law_draws [.scr is]) [] = .rt (.ref 0) [.lst (intL js.reverse)] := by
    simp [d__law_draws, startE, calm_none, matR, itemsOf, guardOf]
    rw [show List.map D.int is = intL is from rfl, show ([] : List D) = intL [] from rfl, h3]
    simp [isRef, methD, methL, intL]
  rw [this]
  show leave [] true (.ref 0) [.lst (intL js.reverse)] = _
  unfold leave
  rw [if_pos (by rfl), if_neg (by simp [D.pl]), if_pos rfl]
  simp only [List.length_nil, Nat.lt_irrefl, if_false, List.getElem?_cons_zero, resolve_ints]
  rfl
/-! ### more draws -/
abbrev bMore : SL := .cons (.asg (.v 2) (.bin .Mod (.bi .int (.cons (.bin .Add (.bin .Mult (.v 2) (.c (.int 48271))) (.c (.int 12345))) .nil)) (.c (.int 2147483647)))) (.cons (.ex (.meth .append (.v 3) (.cons (.bin .Mod (.bi .int (.cons (.bin .FloorDiv (.v 2) (.c (.int 7))) .nil)) (.c (.int 1000))) .nil))) .nil)
theorem more_loop (cx : Ct) (d0 d1 : D) (A : Ob) : ∀ (ts : List D) (ms : List Int) (r : Int) (o4 : Option D), r.natAbs < 2 ^ 90 → ms.length + ts.length < 10000 →
    ∃ ms' r' o4', ms'.length ≤ ms.length + ts.length ∧
      loopFor [] (evG cx (.v 4)) (exSs cx bMore) ts [some d0, some d1, some (.int r), some (.ref 1), o4] [A, .lst (intL ms)] = .nx [some d0, some d1, some (.int r'), some (.ref 1), o4'] [A, .lst (intL ms')]
  | [], ms, r, o4, hr, _ => ⟨ms, r, o4, by simp, by simp [loopFor, held]⟩
  | t :: ts, ms, r, o4, hr, hl => by
    generalize hA : (r * 48271 + 12345) % 2147483647 = B
    have hB : B.natAbs < 2 ^ 90 := by
      have h1 : 0 ≤ B := by rw [← hA]; exact Int.emod_nonneg _ (by decide)
      have h2 : B < 2147483647 := by rw [← hA]; exact Int.emod_lt_of_pos _ (by decide)
      have : B.natAbs < 2147483647 := by omega
      exact Nat.lt_trans this (by decide)
    obtain ⟨ms', r', o4', h2, h3⟩ := more_loop cx d0 d1 A ts (ms ++ [B / 7 % 1000]) B (some t) hB (by simp at hl ⊢; omega)
    refine ⟨ms', r', o4', by simp at h2 ⊢; omega, ?_⟩
    rw [← h3, loopFor]
    have hz : ms.length < sizeLine := lt_line (by simp at hl; omega)
    simp [held, small_mul hr (show (48271 : Int).natAbs < 2 ^ 90 by decide), b_mul, b_mod, hA, isRef, methD, methL, hz, b_div d7]
theorem more_aux (k : Nat) {js j1 j2 : List Int} {a0 a1 : Int} (n1 : run cfg (k + 1) none "_law_next" [.ref 0] [.lst (intL js)] = .ok (.int a0) [.lst (intL j1)]) (n2 : run cfg (k + 1) none "_law_next" [.ref 0] [.lst (intL j1)] = .ok (.int a1) [.lst (intL j2)])
    (b1 : a0.natAbs < 2 ^ 90) (b2 : (1000 * a0 + a1 + 1).natAbs < 2 ^ 90) (hl : j2.length < 5000) : ∃ ms, run cfg (k + 2) none "_law_more" [.ref 0, .int 80] [.lst (intL js)] = .ok (.ref 1) [.lst (intL j2), .lst (intL ms)] := by
  obtain ⟨ms, r', o4', h2, h3⟩ := more_loop (cfg.ct (run cfg (k + 1)) none) (.ref 0) (.int 80) (.lst (intL j2)) (rangeOf 0 80) [] _ none b2 (by simp [rangeOf])
  have h2 : ms.length ≤ 80 := by simpa [rangeOf] using h2
  refine ⟨ms ++ j2, ?_⟩
  rw [run_def d__law_more g_more rfl (by decide) (.inl rfl)]
  have hr : ∀ s : Sto, rangeK [.int 80] s = .ok (rangeOf 0 80, []) s := fun s => by simp [rangeK, rangeD, small62]
  have hz : ms.length + j2.length ≤ sizeLine := Nat.le_of_lt (lt_line (by omega))
  have hadd : binD .Add [.lst (intL j2), .lst (intL ms)] (.ref 1) (.ref 0) = some (.lst (intL (ms ++ j2))) := by
    simp [binD, Pi.listOf, hz]
  have : exSs (cfg.ct (run cfg (k + 1)) none) d__law_more.body (startE d__law_more [.ref 0, .int 80]) [.lst (intL js)] = .rt (.ref 2) [.lst (intL j2), .lst (intL ms), .lst (intL (ms ++ j2))] := by
    have h3' : loopFor [] (evG (cfg.ct (run cfg (k + 1)) none) (.v 4)) (exSs (cfg.ct (run cfg (k + 1)) none) bMore) (rangeOf 0 80) [some (.ref 0), some (.int 80), some (.int (1000 * a0 + a1 + 1)), some (.ref 1), none] [.lst (intL j2), .lst []] =
      .nx [some (.ref 0), some (.int 80), some (.int r'), some (.ref 1), o4'] [.lst (intL j2), .lst (intL ms)] := h3
    simp [d__law_more, startE, n1, n2, small_mul (show (1000 : Int).natAbs < 2 ^ 90 by decide) b1, b_mul, calm_none, matR, hr, h3', hadd]
  rw [this]
  show leave [.lst (intL js)] true (.ref 2) _ = _
  unfold leave
  have hb : backOk [.lst (intL js)] [.lst (intL j2), .lst (intL ms), .lst (intL (ms ++ j2))] = true := by
    have : Ob.cl 1 (.lst (intL j2)) = true := intL_cl 1 j2
    simp [backOk, this, List.range_succ]
  rw [if_pos hb, if_neg (by simp [D.pl]), if_pos rfl]
  have hres := resolve_ints [.lst (intL j2), .lst (intL ms), .lst (intL (ms ++ j2))] 1 19 (some 2) (ms ++ j2)
  simp only [List.length_cons, List.length_nil, List.getElem?_cons_succ, List.getElem?_cons_zero]
  rw [if_neg (by decide), hres]
  rfl
theorem run_more (k : Nat) (js : List Int) (hj : ∀ j ∈ js, Ok j) (hl : js.length < 5000) : ∃ A ms, run cfg (k + 2) none "_law_more" [.ref 0, .int 80] [.lst (intL js)] = .ok (.ref 1) [.lst (intL A), .lst (intL ms)] := by
  have q1 := last_ok hj
  have q2 := last_ok (drop_ok hj)
  have b1 : (lastD js).natAbs < 2 ^ 90 := by
    have : (lastD js).natAbs < 1000 := by have := q1.1; have := q1.2; omega
    exact Nat.lt_trans this (by decide)
  have b2 : (1000 * lastD js + lastD js.dropLast + 1).natAbs < 2 ^ 90 := by
    have : (1000 * lastD js + lastD js.dropLast + 1).natAbs < 2000000 := by have := q1.1; have := q1.2; have := q2.1; have := q2.2; omega
    exact Nat.lt_trans this (by decide)
  have n1 := run_next k [.lst (intL js)] 0 js rfl
  have n2 := run_next k [.lst (intL js.dropLast)] 0 js.dropLast rfl
  obtain ⟨ms, h⟩ := more_aux k n1 n2 b1 b2 (by simp; omega)
  exact ⟨_, ms, h⟩
end K32

set_option maxRecDepth 100000
set_option maxHeartbeats 8000000
namespace K32
open PySem Pi PyProof.Rows
/-! ### the law -/
abbrev b0 : SL := (.cons (.par [4, 5] (.cons (.bin .Sub (.bin .Mod (.bi .int (.cons (.call "_law_next" (.cons (.v 1) .nil)) .nil)) (.c (.int 121))) (.c (.int 60))) (.cons (.bin .Add (.bin .Mod (.bi .int (.cons (.call "_law_next" (.cons (.v 1) .nil)) .nil)) (.c (.int 60))) (.c (.int 1))) .nil))) (.cons (.asg (.v 5) (.ite (.cmp .Eq (.bin .Mod (.bi .int (.cons (.call "_law_next" (.cons (.v 1) .nil)) .nil)) (.c (.int 2))) (.c (.int 0))) (.v 5) (.bin .Sub (.c (.int 0)) (.v 5)))) (.cons (.asg (.v 6) (.call "_law_asked" (.cons (.c (.int 0)) (.cons (.v 4) (.cons (.v 5) .nil))))) (.cons (.ite (.or (.cmp .NotEq (.v 6) (.call "_law_fraction" (.cons (.v 4) (.cons (.v 5) .nil)))) (.or (.cmp .Lt (.idx (.v 6) (.c (.int 1))) (.c (.int 1))) (.or (.cmp .NotEq (.bin .Mult (.idx (.v 6) (.c (.int 0))) (.v 5)) (.bin .Mult (.v 4) (.idx (.v 6) (.c (.int 1))))) (.cmp .IsNot (.call "is_fraction" (.cons (.v 6) .nil)) (.c (.bl true)))))) (.cons (.ret (.c (.bl false))) .nil) .nil) (.cons (.ite (.not (.bi .all (.cons (.comp [13, 14] (.or (.cmp .NotEq (.bi .int (.cons (.bin .Mod (.idx (.v 6) (.c (.int 0))) (.v 14)) .nil)) (.c (.int 0))) (.cmp .NotEq (.bi .int (.cons (.bin .Mod (.idx (.v 6) (.c (.int 1))) (.v 14)) .nil)) (.c (.int 0)))) (.range (.cons (.c (.int 2)) (.cons (.c (.int 61)) .nil))) (.one (.v 14) .none)) .nil))) (.cons (.ret (.c (.bl false))) .nil) .nil) (.cons (.ex (.meth .append (.v 2) (.cons (.v 6) .nil))) .nil)))))) 
abbrev b1 : SL := (.cons (.for (.v 8) (.ex (.v 2)) (.cons (.par [9, 10, 5] (.cons (.bin .Mult (.idx (.v 7) (.c (.int 0))) (.idx (.v 8) (.c (.int 1)))) (.cons (.bin .Mult (.idx (.v 8) (.c (.int 0))) (.idx (.v 7) (.c (.int 1)))) (.cons (.bin .Mult (.idx (.v 7) (.c (.int 1))) (.idx (.v 8) (.c (.int 1)))) .nil)))) (.cons (.asg (.v 11) (.lst (.cons (.call "_law_fraction" (.cons (.bin .Add (.v 9) (.v 10)) (.cons (.v 5) .nil))) (.cons (.call "_law_fraction" (.cons (.bin .Sub (.v 9) (.v 10)) (.cons (.v 5) .nil))) (.cons (.call "_law_fraction" (.cons (.bin .Mult (.idx (.v 7) (.c (.int 0))) (.idx (.v 8) (.c (.int 0)))) (.cons (.v 5) .nil))) .nil))))) (.cons (.ite (.cmp .NotEq (.lst (.cons (.call "plus" (.cons (.v 7) (.cons (.v 8) .nil))) (.cons (.call "minus" (.cons (.v 7) (.cons (.v 8) .nil))) (.cons (.call "times" (.cons (.v 7) (.cons (.v 8) .nil))) .nil)))) (.v 11)) (.cons (.ret (.c (.bl false))) .nil) .nil) (.cons (.ite (.cmp .NotEq (.call "_law_asked" (.cons (.c (.int 1)) (.cons (.v 7) (.cons (.v 8) .nil)))) (.ite (.cmp .Eq (.idx (.v 8) (.c (.int 0))) (.c (.int 0))) (.c (.str "!number")) (.call "_law_fraction" (.cons (.v 9) (.cons (.v 10) .nil))))) (.cons (.ret (.c (.bl false))) .nil) .nil) (.cons (.ite (.cmp .NotEq (.bi .repr (.cons (.lst (.cons (.call "is_less" (.cons (.v 7) (.cons (.v 8) .nil))) (.cons (.call "is_at_least" (.cons (.v 7) (.cons (.v 8) .nil))) .nil))) .nil)) (.bi .repr (.cons (.lst (.cons (.cmp .Lt (.v 9) (.v 10)) (.cons (.cmp .GtE (.v 9) (.v 10)) .nil))) .nil))) (.cons (.ret (.c (.bl false))) .nil) .nil) .nil)))))) .nil) 
abbrev b2 : SL := (.cons (.par [9, 10, 5] (.cons (.bin .Mult (.idx (.v 7) (.c (.int 0))) (.idx (.v 8) (.c (.int 1)))) (.cons (.bin .Mult (.idx (.v 8) (.c (.int 0))) (.idx (.v 7) (.c (.int 1)))) (.cons (.bin .Mult (.idx (.v 7) (.c (.int 1))) (.idx (.v 8) (.c (.int 1)))) .nil)))) (.cons (.asg (.v 11) (.lst (.cons (.call "_law_fraction" (.cons (.bin .Add (.v 9) (.v 10)) (.cons (.v 5) .nil))) (.cons (.call "_law_fraction" (.cons (.bin .Sub (.v 9) (.v 10)) (.cons (.v 5) .nil))) (.cons (.call "_law_fraction" (.cons (.bin .Mult (.idx (.v 7) (.c (.int 0))) (.idx (.v 8) (.c (.int 0)))) (.cons (.v 5) .nil))) .nil))))) (.cons (.ite (.cmp .NotEq (.lst (.cons (.call "plus" (.cons (.v 7) (.cons (.v 8) .nil))) (.cons (.call "minus" (.cons (.v 7) (.cons (.v 8) .nil))) (.cons (.call "times" (.cons (.v 7) (.cons (.v 8) .nil))) .nil)))) (.v 11)) (.cons (.ret (.c (.bl false))) .nil) .nil) (.cons (.ite (.cmp .NotEq (.call "_law_asked" (.cons (.c (.int 1)) (.cons (.v 7) (.cons (.v 8) .nil)))) (.ite (.cmp .Eq (.idx (.v 8) (.c (.int 0))) (.c (.int 0))) (.c (.str "!number")) (.call "_law_fraction" (.cons (.v 9) (.cons (.v 10) .nil))))) (.cons (.ret (.c (.bl false))) .nil) .nil) (.cons (.ite (.cmp .NotEq (.bi .repr (.cons (.lst (.cons (.call "is_less" (.cons (.v 7) (.cons (.v 8) .nil))) (.cons (.call "is_at_least" (.cons (.v 7) (.cons (.v 8) .nil))) .nil))) .nil)) (.bi .repr (.cons (.lst (.cons (.cmp .Lt (.v 9) (.v 10)) (.cons (.cmp .GtE (.v 9) (.v 10)) .nil))) .nil))) (.cons (.ret (.c (.bl false))) .nil) .nil) .nil))))) 
abbrev st0 : S := (.asg (.v 1) (.call "_law_draws" (.cons (.v 0) .nil)))
abbrev st1 : S := (.asg (.v 1) (.call "_law_more" (.cons (.v 1) (.cons (.c (.int 80)) .nil))))
abbrev st2 : S := (.asg (.v 2) (.mat (.lst .nil)))
abbrev st3 : S := (.for (.v 3) (.range (.cons (.c (.int 6)) .nil)) (.cons (.par [4, 5] (.cons (.bin .Sub (.bin .Mod (.bi .int (.cons (.call "_law_next" (.cons (.v 1) .nil)) .nil)) (.c (.int 121))) (.c (.int 60))) (.cons (.bin .Add (.bin .Mod (.bi .int (.cons (.call "_law_next" (.cons (.v 1) .nil)) .nil)) (.c (.int 60))) (.c (.int 1))) .nil))) (.cons (.asg (.v 5) (.ite (.cmp .Eq (.bin .Mod (.bi .int (.cons (.call "_law_next" (.cons (.v 1) .nil)) .nil)) (.c (.int 2))) (.c (.int 0))) (.v 5) (.bin .Sub (.c (.int 0)) (.v 5)))) (.cons (.asg (.v 6) (.call "_law_asked" (.cons (.c (.int 0)) (.cons (.v 4) (.cons (.v 5) .nil))))) (.cons (.ite (.or (.cmp .NotEq (.v 6) (.call "_law_fraction" (.cons (.v 4) (.cons (.v 5) .nil)))) (.or (.cmp .Lt (.idx (.v 6) (.c (.int 1))) (.c (.int 1))) (.or (.cmp .NotEq (.bin .Mult (.idx (.v 6) (.c (.int 0))) (.v 5)) (.bin .Mult (.v 4) (.idx (.v 6) (.c (.int 1))))) (.cmp .IsNot (.call "is_fraction" (.cons (.v 6) .nil)) (.c (.bl true)))))) (.cons (.ret (.c (.bl false))) .nil) .nil) (.cons (.ite (.not (.bi .all (.cons (.comp [13, 14] (.or (.cmp .NotEq (.bi .int (.cons (.bin .Mod (.idx (.v 6) (.c (.int 0))) (.v 14)) .nil)) (.c (.int 0))) (.cmp .NotEq (.bi .int (.cons (.bin .Mod (.idx (.v 6) (.c (.int 1))) (.v 14)) .nil)) (.c (.int 0)))) (.range (.cons (.c (.int 2)) (.cons (.c (.int 61)) .nil))) (.one (.v 14) .none)) .nil))) (.cons (.ret (.c (.bl false))) .nil) .nil) (.cons (.ex (.meth .append (.v 2) (.cons (.v 6) .nil))) .nil)))))))
abbrev st4 : S := (.for (.v 7) (.ex (.v 2)) (.cons (.for (.v 8) (.ex (.v 2)) (.cons (.par [9, 10, 5] (.cons (.bin .Mult (.idx (.v 7) (.c (.int 0))) (.idx (.v 8) (.c (.int 1)))) (.cons (.bin .Mult (.idx (.v 8) (.c (.int 0))) (.idx (.v 7) (.c (.int 1)))) (.cons (.bin .Mult (.idx (.v 7) (.c (.int 1))) (.idx (.v 8) (.c (.int 1)))) .nil)))) (.cons (.asg (.v 11) (.lst (.cons (.call "_law_fraction" (.cons (.bin .Add (.v 9) (.v 10)) (.cons (.v 5) .nil))) (.cons (.call "_law_fraction" (.cons (.bin .Sub (.v 9) (.v 10)) (.cons (.v 5) .nil))) (.cons (.call "_law_fraction" (.cons (.bin .Mult (.idx (.v 7) (.c (.int 0))) (.idx (.v 8) (.c (.int 0)))) (.cons (.v 5) .nil))) .nil))))) (.cons (.ite (.cmp .NotEq (.lst (.cons (.call "plus" (.cons (.v 7) (.cons (.v 8) .nil))) (.cons (.call "minus" (.cons (.v 7) (.cons (.v 8) .nil))) (.cons (.call "times" (.cons (.v 7) (.cons (.v 8) .nil))) .nil)))) (.v 11)) (.cons (.ret (.c (.bl false))) .nil) .nil) (.cons (.ite (.cmp .NotEq (.call "_law_asked" (.cons (.c (.int 1)) (.cons (.v 7) (.cons (.v 8) .nil)))) (.ite (.cmp .Eq (.idx (.v 8) (.c (.int 0))) (.c (.int 0))) (.c (.str "!number")) (.call "_law_fraction" (.cons (.v 9) (.cons (.v 10) .nil))))) (.cons (.ret (.c (.bl false))) .nil) .nil) (.cons (.ite (.cmp .NotEq (.bi .repr (.cons (.lst (.cons (.call "is_less" (.cons (.v 7) (.cons (.v 8) .nil))) (.cons (.call "is_at_least" (.cons (.v 7) (.cons (.v 8) .nil))) .nil))) .nil)) (.bi .repr (.cons (.lst (.cons (.cmp .Lt (.v 9) (.v 10)) (.cons (.cmp .GtE (.v 9) (.v 10)) .nil))) .nil))) (.cons (.ret (.c (.bl false))) .nil) .nil) .nil)))))) .nil))
abbrev st5 : S := (.ite (.or (.not (.bi .all (.cons (.comp [13, 7] (.and (.not (.call "_law_less" (.cons (.v 7) (.cons (.call "least" (.cons (.v 2) .nil)) .nil)))) (.not (.call "_law_less" (.cons (.call "greatest" (.cons (.v 2) .nil)) (.cons (.v 7) .nil))))) (.ex (.v 2)) (.one (.v 7) .none)) .nil))) (.or (.cmp .NotIn (.call "least" (.cons (.v 2) .nil)) (.v 2)) (.cmp .NotIn (.call "greatest" (.cons (.v 2) .nil)) (.v 2)))) (.cons (.ret (.c (.bl false))) .nil) .nil)
abbrev st6 : S := (.ite (.or (.cmp .NotEq (.call "total" (.cons (.v 2) .nil)) (.call "_law_sum" (.cons (.v 2) .nil))) (.or (.cmp .NotEq (.call "total" (.cons (.lst .nil) .nil)) (.tup (.cons (.c (.int 0)) (.cons (.c (.int 1)) .nil)))) (.cmp .NotEq (.comp [13, 7] (.call "negative" (.cons (.v 7) .nil)) (.ex (.v 2)) (.one (.v 7) .none)) (.comp [13, 7] (.tup (.cons (.bin .Sub (.c (.int 0)) (.idx (.v 7) (.c (.int 0)))) (.cons (.idx (.v 7) (.c (.int 1))) .nil))) (.ex (.v 2)) (.one (.v 7) .none))))) (.cons (.ret (.c (.bl false))) .nil) .nil)
abbrev st7 : S := (.asg (.v 12) (.lst (.cons (.c (.int 5)) (.cons (.tup .nil) (.cons (.tup (.cons (.c (.int 1)) .nil)) (.cons (.tup (.cons (.c (.int 1)) (.cons (.c (.int 0)) .nil))) (.cons (.tup (.cons (.c (.int 1)) (.cons (.neg (.c (.int 1))) .nil))) (.cons (.tup (.cons (.c (.int 2)) (.cons (.c (.int 4)) .nil))) (.cons (.tup (.cons (.c (.int 0)) (.cons (.c (.int 2)) .nil))) (.cons (.tup (.cons (.c (.str "a")) (.cons (.c (.int 1)) .nil))) (.cons (.tup (.cons (.c (.int 1)) (.cons (.c (.str "a")) .nil))) (.cons (.lst (.cons (.c (.int 1)) (.cons (.c (.int 1)) .nil))) (.cons (.tup (.cons (.c (.int 1)) (.cons (.c (.int 1)) (.cons (.c (.int 1)) .nil)))) (.cons (.c .non) .nil))))))))))))))
abbrev st8 : S := (.ite (.or (.cmp .NotEq (.comp [13, 15] (.call "is_fraction" (.cons (.v 15) .nil)) (.ex (.v 12)) (.one (.v 15) .none)) (.bin .Mult (.lst (.cons (.c (.bl false)) .nil)) (.c (.int 12)))) (.or (.cmp .NotEq (.call "whole" (.cons (.c (.int 7)) .nil)) (.tup (.cons (.c (.int 7)) (.cons (.c (.int 1)) .nil)))) (.or (.cmp .NotEq (.call "fraction" (.cons (.c (.int 6)) (.cons (.neg (.c (.int 4))) .nil))) (.tup (.cons (.neg (.c (.int 3))) (.cons (.c (.int 2)) .nil)))) (.cmp .NotEq (.call "fraction" (.cons (.c (.int 0)) (.cons (.neg (.c (.int 9))) .nil))) (.tup (.cons (.c (.int 0)) (.cons (.c (.int 1)) .nil))))))) (.cons (.ret (.c (.bl false))) .nil) .nil)
abbrev st9 : S := (.ret (.cmp .Eq (.lst (.cons (.call "_law_asked" (.cons (.c (.int 0)) (.cons (.c (.int 1)) (.cons (.c (.int 0)) .nil)))) (.cons (.call "_law_asked" (.cons (.c (.int 0)) (.cons (.c (.str "a")) (.cons (.c (.int 1)) .nil)))) (.cons (.call "_law_asked" (.cons (.c (.int 0)) (.cons (.c (.int 1)) (.cons (.c (.str "a")) .nil)))) (.cons (.call "_law_asked" (.cons (.c (.int 1)) (.cons (.tup (.cons (.c (.int 1)) (.cons (.c (.int 1)) .nil))) (.cons (.tup (.cons (.c (.int 0)) (.cons (.c (.int 1)) .nil))) .nil)))) .nil))))) (.bin .Mult (.lst (.cons (.c (.str "!number")) .nil)) (.c (.int 4)))))
abbrev Dn := Option D
theorem coprime {a b : Int} (hb : b ≠ 0) : Int.gcd (tI a b) (lI a b) = 1 ∧ sg b * a = tI a b * Int.gcd a b ∧ sg b * b = lI a b * Int.gcd a b := by
  have hg : 0 < Int.gcd a b := gcd_pos hb
  have hgi : (Int.gcd a b : Int) ≠ 0 := by omega
  have d1 : (Int.gcd a b : Int) ∣ sg b * a := Int.dvd_mul_of_dvd_right (Int.gcd_dvd_left a b)
  have d2 : (Int.gcd a b : Int) ∣ sg b * b := Int.dvd_mul_of_dvd_right (Int.gcd_dvd_right a b)
  have e1 : sg b * a = tI a b * Int.gcd a b := (Int.ediv_mul_cancel d1).symm
  have e2 : sg b * b = lI a b * Int.gcd a b := (Int.ediv_mul_cancel d2).symm
  refine ⟨?_, e1, e2⟩
  have n1 : (sg b).natAbs = 1 := by unfold sg; split <;> rfl
  have e3 : Int.gcd (sg b * a) (sg b * b) = Int.gcd a b := by
    rw [Int.gcd_mul_left, n1, Nat.one_mul]
  rw [e1, e2, Int.gcd_mul_right, Int.natAbs_natCast] at e3
  exact Nat.eq_of_mul_eq_mul_right hg (by rw [Nat.one_mul]; exact e3)
theorem low_facts {a b : Int} (hb : b ≠ 0) (ha : a.natAbs ≤ 60) (hb60 : b.natAbs ≤ 60) : Small (tI a b, lI a b) ∧ tI a b * b = a * lI a b := by
  obtain ⟨_, e1, e2⟩ := coprime (a := a) hb
  have hg : 0 < Int.gcd a b := gcd_pos hb
  have n1 : (sg b).natAbs = 1 := by unfold sg; split <;> rfl
  have a1 : a.natAbs = (tI a b).natAbs * Int.gcd a b := by
    have := congrArg Int.natAbs e1
    rwa [Int.natAbs_mul, Int.natAbs_mul, n1, Nat.one_mul, Int.natAbs_natCast] at this
  have b1 : b.natAbs = (lI a b).natAbs * Int.gcd a b := by
    have := congrArg Int.natAbs e2
    rwa [Int.natAbs_mul, Int.natAbs_mul, n1, Nat.one_mul, Int.natAbs_natCast] at this
  have hpos : 0 < sg b * b := by unfold sg; split <;> omega
  have hl : 0 < lI a b := by
    refine Classical.byContradiction fun z => ?_
    have : lI a b * (Int.gcd a b : Int) ≤ 0 := Int.mul_nonpos_of_nonpos_of_nonneg (by omega) (by omega)
    omega
  refine ⟨⟨?_, hl, ?_⟩, ?_⟩
  · have := Nat.le_mul_of_pos_right (tI a b).natAbs hg; omega
  · have := Nat.le_mul_of_pos_right (lI a b).natAbs hg; omega
  · have hgi : (Int.gcd a b : Int) ≠ 0 := by omega
    have hs : sg b ≠ 0 := by unfold sg; split <;> decide
    have h1 : (sg b * (Int.gcd a b : Int)) * (tI a b * b) = (sg b * (Int.gcd a b : Int)) * (a * lI a b) := by
      have x1 : (sg b * (Int.gcd a b : Int)) * (tI a b * b) = (tI a b * Int.gcd a b) * (sg b * b) := by ac_rfl
      have x2 : (sg b * (Int.gcd a b : Int)) * (a * lI a b) = (sg b * a) * (lI a b * Int.gcd a b) := by ac_rfl
      rw [x1, x2, ← e1, ← e2]
    exact Int.eq_of_mul_eq_mul_left (Int.mul_ne_zero hs hgi) h1
theorem no_common {a b p : Int} (hb : b ≠ 0) (hp : 2 ≤ p) (h1 : tI a b % p = 0) (h2 : lI a b % p = 0) : False := by
  have c := (coprime (a := a) hb).1
  have d : p ∣ (Int.gcd (tI a b) (lI a b) : Int) := Int.dvd_coe_gcd (Int.dvd_of_emod_eq_zero h1) (Int.dvd_of_emod_eq_zero h2)
  rw [c] at d
  have : p ≤ 1 := Int.le_of_dvd (by decide) (by simpa using d)
  omega
theorem depth_fr (n d : Int) : (fr n d).pd.depth ≤ eqRoom := by simp [D.pd, pdAll, PyData.depth, PyData.depthAll, eqRoom]
theorem ne_fr {s : Sto} (n d : Int) : cmpD .NotEq s (fr n d) (fr n d) = some false := ne_self rfl (depth_fr n d)
theorem comp1 (cx : Ct) (s : Sto) (a b : Int) (hb : b ≠ 0) (x0 x1 x2 x3 x4 x5 x7 x8 x9 x10 x11 x12 x13 x14 x15 : Dn) :
    compR (evI cx (.range (.cons (.c (.int 2)) (.cons (.c (.int 61)) .nil)))) (evG cx (.v 14)) (evT cx .none)
      (evE cx (.or (.cmp .NotEq (.bi .int (.cons (.bin .Mod (.idx (.v 6) (.c (.int 0))) (.v 14)) .nil)) (.c (.int 0))) (.cmp .NotEq (.bi .int (.cons (.bin .Mod (.idx (.v 6) (.c (.int 1))) (.v 14)) .nil)) (.c (.int 0)))))
      [13, 14] [x0, x1, x2, x3, x4, x5, some (fr (tI a b) (lI a b)), x7, x8, x9, x10, x11, x12, x13, x14, x15] s = .ok (.lst ((rangeOf 2 59).map fun _ => .bl true)) s := by
  refine compR_map (ds := rangeOf 2 59) (gd := []) (fun _ => .bl true) (by simp [rangeK, rangeD, small62]) rfl (by rw [sizeLine_eq]; simp [rangeOf]) fun d hd => ?_
  obtain ⟨n, hn, rfl⟩ := List.mem_map.mp hd
  have hp : (2 : Int) ≤ 2 + (n : Int) := by omega
  refine ⟨[x0, x1, x2, x3, x4, x5, some (fr (tI a b) (lI a b)), x7, x8, x9, x10, x11, x12, none, some (.int (2 + (n : Int))), x15], by simp [wipeE], by simp, ?_⟩
  have hp0 : (0 : Int) < 2 + (n : Int) := by omega
  by_cases h1 : tI a b % (2 + (n : Int)) = 0
  · have h2 : ¬ lI a b % (2 + (n : Int)) = 0 := fun h2 => no_common hb hp h1 h2
    simp [at0, at1, b_mod hp0, h1, h2]
  · simp [at0, at1, b_mod hp0, h1]
theorem is_true {s : Sto} (b : Bool) : cmpD .IsNot s (.bl b) (.bl true) = some (!(b == true)) := rfl
theorem turn1 (k : Nat) {A : Ob} {j0 j1 j2 j3 : List Int} {a0 a1 a2 : Int} {fs : List D}
    (n1 : run cfg (k + 10) none "_law_next" [.ref 1] [A, .lst (intL j0), .lst fs] = .ok (.int a0) [A, .lst (intL j1), .lst fs])
    (n2 : run cfg (k + 10) none "_law_next" [.ref 1] [A, .lst (intL j1), .lst fs] = .ok (.int a1) [A, .lst (intL j2), .lst fs])
    (n3 : run cfg (k + 10) none "_law_next" [.ref 1] [A, .lst (intL j2), .lst fs] = .ok (.int a2) [A, .lst (intL j3), .lst fs]) (hf : fs.length < 1000)
    (x0 x3 x4 x5 x6 x7 x8 x9 x10 x11 x12 x13 x14 x15 : Dn) :
    ∃ (q : Q) (y4 y5 y6 : Dn), Small q ∧ exSs (cfg.ct (run cfg (k + 10)) none) b0 [x0, some (.ref 1), some (.ref 2), x3, x4, x5, x6, x7, x8, x9, x10, x11, x12, x13, x14, x15] [A, .lst (intL j0), .lst fs] =
      .nx [x0, some (.ref 1), some (.ref 2), x3, y4, y5, y6, x7, x8, x9, x10, x11, x12, x13, x14, x15] [A, .lst (intL j3), .lst (fs ++ [frq q])] := by
  generalize hT : a0 % 121 - 60 = top
  generalize hL : a1 % 60 + 1 = l0
  have t1 : top.natAbs ≤ 60 := by omega
  have l1 : 1 ≤ l0 ∧ l0 ≤ 60 := by omega
  generalize hlow : (if a2 % 2 = 0 then l0 else 0 - l0) = low
  have hb : low ≠ 0 := by rw [← hlow]; split <;> omega
  have hb60 : low.natAbs ≤ 60 := by rw [← hlow]; split <;> omega
  obtain ⟨sm, hx⟩ := low_facts (a := top) hb t1 hb60
  refine ⟨(tI top low, lI top low), some (.int top), some (.int low), some (fr (tI top low) (lI top low)), sm, ?_⟩
  have big : ∀ {n : Nat}, n ≤ 60 → n < 2 ^ 90 := fun h => Nat.lt_of_le_of_lt h (by decide)
  have big' : ∀ {n : Nat}, n ≤ 60 → n < 2 ^ 190 := fun h => Nat.lt_of_le_of_lt h (by decide)
  have big'' : ∀ {n : Nat}, n ≤ 60 → n < 2 ^ 200 := fun h => Nat.lt_of_le_of_lt h (by decide)
  have fr1 : ∀ s, run cfg (k + 9) none "fraction" [.int top, .int low] s = .ok (fr (tI top low) (lI top low)) s := fun s => by
    have := run_fraction (k + 6) s top low (big'' hb60)
    rw [if_neg hb] at this
    exact this
  have as1 : ∀ s, run cfg (k + 10) none "_law_asked" [.int 0, .int top, .int low] s = .ok (fr (tI top low) (lI top low)) s := fun s =>
    run_asked (k + 6) s 0 (.int top) (.int low) (.ok (fr (tI top low) (lI top low)) s) (by rw [if_pos rfl]; exact fr1 s) (.inl ⟨_, rfl, rfl⟩)
  have lf : ∀ s, run cfg (k + 10) none "_law_fraction" [.int top, .int low] s = .ok (fr (tI top low) (lI top low)) s := fun s => run_lfraction (k + 8) s top low hb (big' hb60) (big' t1)
  have isf : ∀ s, run cfg (k + 10) none "is_fraction" [fr (tI top low) (lI top low)] s = .ok (.bl true) s := fun s => by
    have := run_isf_int (k + 8) s (tI top low) (lI top low) (big'' sm.2.2)
    rw [(coprime (a := top) hb).1] at this
    have h0 := sm.2.1
    simp only [] at h0
    simpa [h0] using this
  have m1 := b_mul (s := [A, .lst (intL j3), .lst fs]) (small_mul (big sm.1) (big hb60))
  have m2 := b_mul (s := [A, .lst (intL j3), .lst fs]) (small_mul (big t1) (big sm.2.2))
  simp only [] at m1 m2
  have lt1 : ¬ lI top low < 1 := by have := sm.2.1; simp only [] at this; omega
  have hc := fun (x13 x14 : Dn) => comp1 (cfg.ct (run cfg (k + 10)) none) [A, .lst (intL j3), .lst fs] top low hb x0 (some (.ref 1)) (some (.ref 2)) x3 (some (.int top)) (some (.int low)) x7 x8 x9 x10 x11 x12 x13 x14 x15
  have ha : biD .all [A, .lst (intL j3), .lst fs] [.lst ((rangeOf 2 59).map fun _ => D.bl true)] = some (.bl ((rangeOf 2 59).all fun _ => true)) := D_all (f := fun _ => true)
  have hz : fs.length < sizeLine := Nat.lt_of_lt_of_le hf sizeL
  have hpar : exS (cfg.ct (run cfg (k + 10)) none) (.par [4, 5] (.cons (.bin .Sub (.bin .Mod (.bi .int (.cons (.call "_law_next" (.cons (.v 1) .nil)) .nil)) (.c (.int 121))) (.c (.int 60))) (.cons (.bin .Add (.bin .Mod (.bi .int (.cons (.call "_law_next" (.cons (.v 1) .nil)) .nil)) (.c (.int 60))) (.c (.int 1))) .nil)))
      [x0, some (.ref 1), some (.ref 2), x3, x4, x5, x6, x7, x8, x9, x10, x11, x12, x13, x14, x15] [A, .lst (intL j0), .lst fs] = .nx [x0, some (.ref 1), some (.ref 2), x3, some (.int top), some (.int l0), x6, x7, x8, x9, x10, x11, x12, x13, x14, x15] [A, .lst (intL j2), .lst fs] := by
    simp [n1, n2, b_mod, parS, hT, hL]
  rw [R_cons, hpar, seq_nx]
  have hlo : exS (cfg.ct (run cfg (k + 10)) none) (.asg (.v 5) (.ite (.cmp .Eq (.bin .Mod (.bi .int (.cons (.call "_law_next" (.cons (.v 1) .nil)) .nil)) (.c (.int 2))) (.c (.int 0))) (.v 5) (.bin .Sub (.c (.int 0)) (.v 5))))
      [x0, some (.ref 1), some (.ref 2), x3, some (.int top), some (.int l0), x6, x7, x8, x9, x10, x11, x12, x13, x14, x15] [A, .lst (intL j2), .lst fs] = .nx [x0, some (.ref 1), some (.ref 2), x3, some (.int top), some (.int low), x6, x7, x8, x9, x10, x11, x12, x13, x14, x15] [A, .lst (intL j3), .lst fs] := by
    by_cases h2 : a2 % 2 = 0
    · rw [if_pos h2] at hlow; subst hlow
      simp [n3, b_mod, h2]
    · rw [if_neg h2] at hlow; subst hlow
      simp [n3, b_mod, h2]
  rw [R_cons, hlo, seq_nx]
  simp [as1, lf, ne_fr, at0, at1, lt1, m1, m2, hx, isf, is_true, hc, ha, isRef, methD, methL, hz]
end K32

set_option maxRecDepth 100000
set_option maxHeartbeats 8000000
namespace K32
open PySem Pi PyProof.Rows
theorem loop1 (k : Nat) (A : Ob) : ∀ (ts : List D) (fs : List Q) (js : List Int) (x0 x3 x4 x5 x6 x7 x8 x9 x10 x11 x12 x13 x14 x15 : Dn), fs.length + ts.length < 1000 → (∀ q ∈ fs, Small q) →
    ∃ (qs : List Q) (js' : List Int) (y3 y4 y5 y6 : Dn), qs.length = fs.length + ts.length ∧ (∀ q ∈ qs, Small q) ∧
      loopFor [] (evG (cfg.ct (run cfg (k + 10)) none) (.v 3)) (exSs (cfg.ct (run cfg (k + 10)) none) b0) ts [x0, some (.ref 1), some (.ref 2), x3, x4, x5, x6, x7, x8, x9, x10, x11, x12, x13, x14, x15] [A, .lst (intL js), .lst (fs.map frq)] =
        .nx [x0, some (.ref 1), some (.ref 2), y3, y4, y5, y6, x7, x8, x9, x10, x11, x12, x13, x14, x15] [A, .lst (intL js'), .lst (qs.map frq)]
  | [], fs, js, x0, x3, x4, x5, x6, x7, x8, x9, x10, x11, x12, x13, x14, x15, _, hs => ⟨fs, js, x3, x4, x5, x6, rfl, hs, rfl⟩
  | t :: ts, fs, js, x0, x3, x4, x5, x6, x7, x8, x9, x10, x11, x12, x13, x14, x15, hl, hs => by
    obtain ⟨q, y4, y5, y6, hq, e⟩ := turn1 k (A := A) (fs := fs.map frq) (run_next (k + 9) [A, .lst (intL js), .lst (fs.map frq)] 1 js rfl) (run_next (k + 9) [A, .lst (intL js.dropLast), .lst (fs.map frq)] 1 js.dropLast rfl) (run_next (k + 9) [A, .lst (intL js.dropLast.dropLast), .lst (fs.map frq)] 1 js.dropLast.dropLast rfl) (by simp; omega) x0 (some t) x4 x5 x6 x7 x8 x9 x10 x11 x12 x13 x14 x15
    obtain ⟨qs, js', z3, z4, z5, z6, h1, h2, h3⟩ := loop1 k A ts (fs ++ [q]) js.dropLast.dropLast.dropLast x0 (some t) y4 y5 y6 x7 x8 x9 x10 x11 x12 x13 x14 x15 (by simp at hl ⊢; omega) (fun r hr => by
      rcases List.mem_append.mp hr with hr | hr
      · exact hs r hr
      · rw [List.mem_singleton.mp hr]; exact hq)
    refine ⟨qs, js', z3, z4, z5, z6, by simp at h1 ⊢; omega, h2, ?_⟩
    rw [← h3, loopFor, if_pos (show held [] _ = true from rfl)]
    have hg : evG (cfg.ct (run cfg (k + 10)) none) (.v 3) t [x0, some (.ref 1), some (.ref 2), x3, x4, x5, x6, x7, x8, x9, x10, x11, x12, x13, x14, x15] [A, .lst (intL js), .lst (fs.map frq)] = .ok [x0, some (.ref 1), some (.ref 2), some t, x4, x5, x6, x7, x8, x9, x10, x11, x12, x13, x14, x15] [A, .lst (intL js), .lst (fs.map frq)] := by simp
    rw [hg]
    simp only []
    rw [e]
    simp
/-! ### the pairs -/
theorem rep_bool {s : Sto} (b c : Bool) : biD .repr s [.lst [.bl b, .bl c]] = some (.str (D.lst [.bl b, .bl c]).pd.shown) := by
  show showD s _ = _
  unfold showD
  rw [view_pl rfl]
  cases b <;> cases c <;> exact if_pos (by rw [sizeLine_eq]; decide +kernel)
theorem mul60 {a b : Int} (h1 : a.natAbs ≤ 60) (h2 : b.natAbs ≤ 60) : (a * b).natAbs ≤ 3600 := by
  rw [Int.natAbs_mul]; exact Nat.mul_le_mul h1 h2
theorem ne_str {s : Sto} (x : Str) : cmpD .NotEq s (.str x) (.str x) = some false := ne_self rfl (by simp [D.pd, PyData.depth, eqRoom])
theorem ne_l3 {s : Sto} (a b c a' b' c' : Int) : cmpD .NotEq s (.lst [fr a b, fr c a', fr b' c']) (.lst [fr a b, fr c a', fr b' c']) = some false := ne_self rfl (by simp [D.pd, pdAll, PyData.depth, PyData.depthAll, eqRoom])
theorem turn2 (k : Nat) (s : Sto) (q r : Q) (hq : Small q) (hr : Small r) (x0 x1 x2 x3 x4 x5 x6 x9 x10 x11 x12 x13 x14 x15 : Dn) :
    ∃ y5 y9 y10 y11 : Dn, exSs (cfg.ct (run cfg (k + 10)) none) b2 [x0, x1, x2, x3, x4, x5, x6, some (frq q), some (frq r), x9, x10, x11, x12, x13, x14, x15] s =
      .nx [x0, x1, x2, x3, x4, y5, x6, some (frq q), some (frq r), y9, y10, y11, x12, x13, x14, x15] s := by
  obtain ⟨n, d⟩ := q
  obtain ⟨n', d'⟩ := r
  obtain ⟨a1, a2, a3⟩ := hq
  obtain ⟨c1, c2, c3⟩ := hr
  simp only [] at a1 a2 a3 c1 c2 c3
  have big : ∀ {n : Nat}, n ≤ 60 → n < 2 ^ 90 := fun h => Nat.lt_of_le_of_lt h (by decide)
  have big' : ∀ {n : Nat}, n ≤ 7200 → n < 2 ^ 190 := fun h => Nat.lt_of_le_of_lt h (by decide)
  have p1 := mul60 a1 c3
  have p2 := mul60 c1 a3
  have p3 := mul60 a3 c3
  have p4 := mul60 a1 c1
  have hd : d * d' ≠ 0 := Int.ne_of_gt (Int.mul_pos a2 c2)
  have s1 := Int.natAbs_add_le (n * d') (n' * d)
  have s2 : (n * d' - n' * d).natAbs ≤ 7200 := by omega
  have f1 := run_lfraction (k + 8) s (n * d' + n' * d) (d * d') hd (big' (by omega)) (big' (by omega))
  have f2 := run_lfraction (k + 8) s (n * d' - n' * d) (d * d') hd (big' (by omega)) (big' (by omega))
  have f3 := run_lfraction (k + 8) s (n * n') (d * d') hd (big' (by omega)) (big' (by omega))
  have g1 := run_plus (k + 7) s hd (big a1) (big a3) (big c1) (big c3)
  have g2 := run_minus (k + 7) s hd (big a1) (big a3) (big c1) (big c3)
  have g3 := run_times (k + 7) s hd (big a1) (big a3) (big c1) (big c3)
  have l1 := run_is_less (k + 9) s (big a1) (big a3) (big c1) (big c3)
  have l2 := run_is_at_least (k + 9) s (big a1) (big a3) (big c1) (big c3)
  have m1 := b_mul (s := s) (mul_ok (big a1) (big c3))
  have m2 := b_mul (s := s) (mul_ok (big c1) (big a3))
  have m3 := b_mul (s := s) (mul_ok (big a3) (big c3))
  have m4 := b_mul (s := s) (mul_ok (big a1) (big c1))
  have ov := run_over (k + 6) s (n' := n') (d' := d') (Int.ne_of_gt a2) (big a1) (big a3) (big c1) (big c3)
  have as := run_asked (k + 6) s 1 (fr n d) (fr n' d') (if n' = 0 then .exc bad s else .ok (fr (tI (n * d') (d * n')) (lI (n * d') (d * n'))) s) ((if_neg (by decide)).trans ov) (by
    by_cases h : n' = 0
    · rw [if_pos h]; exact .inr rfl
    · rw [if_neg h]; exact .inl ⟨_, rfl, rfl⟩)
  refine ⟨some (.int (d * d')), some (.int (n * d')), some (.int (n' * d)), some (.lst [fr (tI (n * d' + n' * d) (d * d')) (lI (n * d' + n' * d) (d * d')), fr (tI (n * d' - n' * d) (d * d')) (lI (n * d' - n' * d) (d * d')), fr (tI (n * n') (d * d')) (lI (n * n') (d * d'))]), ?_⟩
  have hpar : exS (cfg.ct (run cfg (k + 10)) none) (.par [9, 10, 5] (.cons (.bin .Mult (.idx (.v 7) (.c (.int 0))) (.idx (.v 8) (.c (.int 1)))) (.cons (.bin .Mult (.idx (.v 8) (.c (.int 0))) (.idx (.v 7) (.c (.int 1)))) (.cons (.bin .Mult (.idx (.v 7) (.c (.int 1))) (.idx (.v 8) (.c (.int 1)))) .nil))))
      [x0, x1, x2, x3, x4, x5, x6, some (fr n d), some (fr n' d'), x9, x10, x11, x12, x13, x14, x15] s = .nx [x0, x1, x2, x3, x4, some (.int (d * d')), x6, some (fr n d), some (fr n' d'), some (.int (n * d')), some (.int (n' * d)), x11, x12, x13, x14, x15] s := by
    simp [m1, m2, m3, at0, at1, parS]
  rw [R_cons, hpar, seq_nx]
  have hw : ∃ w : D, run cfg (k + 10) none "_law_asked" [.int 1, fr n d, fr n' d'] s = .ok w s ∧ cmpD .NotEq s w w = some false ∧
      ∀ y11 : Dn, evE (cfg.ct (run cfg (k + 10)) none) (.ite (.cmp .Eq (.idx (.v 8) (.c (.int 0))) (.c (.int 0))) (.c (.str "!number")) (.call "_law_fraction" (.cons (.v 9) (.cons (.v 10) .nil))))
        [x0, x1, x2, x3, x4, some (.int (d * d')), x6, some (fr n d), some (fr n' d'), some (.int (n * d')), some (.int (n' * d)), y11, x12, x13, x14, x15] s = .ok w s := by
    by_cases h0 : n' = 0
    · rw [if_pos h0] at as
      exact ⟨_, as, ne_str _, fun y => by simp [at0, h0]⟩
    · have hn : n' * d ≠ 0 := Int.mul_ne_zero h0 (Int.ne_of_gt a2)
      have f4 := run_lfraction (k + 8) s (n * d') (n' * d) hn (big' (by omega)) (big' (by omega))
      rw [if_neg h0, Int.mul_comm d n'] at as
      exact ⟨_, as, ne_fr _ _, fun y => by simp [at0, h0, f4]⟩
  obtain ⟨w, w1, w2, w3⟩ := hw
  have w4 : ∀ y11 : Dn, exS (cfg.ct (run cfg (k + 10)) none) (.ite (.cmp .NotEq (.call "_law_asked" (.cons (.c (.int 1)) (.cons (.v 7) (.cons (.v 8) .nil)))) (.ite (.cmp .Eq (.idx (.v 8) (.c (.int 0))) (.c (.int 0))) (.c (.str "!number")) (.call "_law_fraction" (.cons (.v 9) (.cons (.v 10) .nil))))) (.cons (.ret (.c (.bl false))) .nil) .nil)
      [x0, x1, x2, x3, x4, some (.int (d * d')), x6, some (fr n d), some (fr n' d'), some (.int (n * d')), some (.int (n' * d)), y11, x12, x13, x14, x15] s = .nx [x0, x1, x2, x3, x4, some (.int (d * d')), x6, some (fr n d), some (fr n' d'), some (.int (n * d')), some (.int (n' * d)), y11, x12, x13, x14, x15] s := fun y11 => by
    have w5 : evE (cfg.ct (run cfg (k + 10)) none) (.call "_law_asked" (.cons (.c (.int 1)) (.cons (.v 7) (.cons (.v 8) .nil)))) [x0, x1, x2, x3, x4, some (.int (d * d')), x6, some (fr n d), some (fr n' d'), some (.int (n * d')), some (.int (n' * d)), y11, x12, x13, x14, x15] s = .ok w s := by simp [w1]
    rw [R_ite, Q_cmp, w5, Res.bind_ok, w3 y11, Res.bind_ok, w2]
    simp
  have hlst : exS (cfg.ct (run cfg (k + 10)) none) (.asg (.v 11) (.lst (.cons (.call "_law_fraction" (.cons (.bin .Add (.v 9) (.v 10)) (.cons (.v 5) .nil))) (.cons (.call "_law_fraction" (.cons (.bin .Sub (.v 9) (.v 10)) (.cons (.v 5) .nil))) (.cons (.call "_law_fraction" (.cons (.bin .Mult (.idx (.v 7) (.c (.int 0))) (.idx (.v 8) (.c (.int 0)))) (.cons (.v 5) .nil))) .nil)))))
      [x0, x1, x2, x3, x4, some (.int (d * d')), x6, some (fr n d), some (fr n' d'), some (.int (n * d')), some (.int (n' * d)), x11, x12, x13, x14, x15] s = .nx [x0, x1, x2, x3, x4, some (.int (d * d')), x6, some (fr n d), some (fr n' d'), some (.int (n * d')), some (.int (n' * d)), some (.lst [fr (tI (n * d' + n' * d) (d * d')) (lI (n * d' + n' * d) (d * d')), fr (tI (n * d' - n' * d) (d * d')) (lI (n * d' - n' * d) (d * d')), fr (tI (n * n') (d * d')) (lI (n * n') (d * d'))]), x12, x13, x14, x15] s := by
    simp [f1, f2, f3, at0, at1, m4, calm_none]
  rw [R_cons, hlst, seq_nx]
  have hc3 : exS (cfg.ct (run cfg (k + 10)) none) (.ite (.cmp .NotEq (.lst (.cons (.call "plus" (.cons (.v 7) (.cons (.v 8) .nil))) (.cons (.call "minus" (.cons (.v 7) (.cons (.v 8) .nil))) (.cons (.call "times" (.cons (.v 7) (.cons (.v 8) .nil))) .nil)))) (.v 11)) (.cons (.ret (.c (.bl false))) .nil) .nil)
      [x0, x1, x2, x3, x4, some (.int (d * d')), x6, some (fr n d), some (fr n' d'), some (.int (n * d')), some (.int (n' * d)), some (.lst [fr (tI (n * d' + n' * d) (d * d')) (lI (n * d' + n' * d) (d * d')), fr (tI (n * d' - n' * d) (d * d')) (lI (n * d' - n' * d) (d * d')), fr (tI (n * n') (d * d')) (lI (n * n') (d * d'))]), x12, x13, x14, x15] s = .nx [x0, x1, x2, x3, x4, some (.int (d * d')), x6, some (fr n d), some (fr n' d'), some (.int (n * d')), some (.int (n' * d)), some (.lst [fr (tI (n * d' + n' * d) (d * d')) (lI (n * d' + n' * d) (d * d')), fr (tI (n * d' - n' * d) (d * d')) (lI (n * d' - n' * d) (d * d')), fr (tI (n * n') (d * d')) (lI (n * n') (d * d'))]), x12, x13, x14, x15] s := by
    have e1 : cmpD .NotEq s (.lst [fr (tI (n * d' + n' * d) (d * d')) (lI (n * d' + n' * d) (d * d')), fr (tI (n * d' - n' * d) (d * d')) (lI (n * d' - n' * d) (d * d')), fr (tI (n * n') (d * d')) (lI (n * n') (d * d'))]) (.lst [fr (tI (n * d' + n' * d) (d * d')) (lI (n * d' + n' * d) (d * d')), fr (tI (n * d' - n' * d) (d * d')) (lI (n * d' - n' * d) (d * d')), fr (tI (n * n') (d * d')) (lI (n * n') (d * d'))]) = some false := ne_self rfl (by simp [D.pd, pdAll, PyData.depth, PyData.depthAll, eqRoom])
    simp [g1, g2, g3, calm_none, e1]
  rw [R_cons, hc3, seq_nx, R_cons, w4, seq_nx]
  simp [l1, l2, calm_none, rep_bool, ne_str]
end K32

set_option maxRecDepth 100000
set_option maxHeartbeats 8000000
namespace K32
open PySem Pi PyProof.Rows
theorem loop2 (k : Nat) (s : Sto) (gd : Gd) (hh : held gd s = true) (q : Q) (hq : Small q) : ∀ (rs : List Q) (x0 x1 x2 x3 x4 x5 x6 x8 x9 x10 x11 x12 x13 x14 x15 : Dn), (∀ r ∈ rs, Small r) →
    ∃ y5 y8 y9 y10 y11 : Dn, loopFor gd (evG (cfg.ct (run cfg (k + 10)) none) (.v 8)) (exSs (cfg.ct (run cfg (k + 10)) none) b2) (rs.map frq) [x0, x1, x2, x3, x4, x5, x6, some (frq q), x8, x9, x10, x11, x12, x13, x14, x15] s =
      .nx [x0, x1, x2, x3, x4, y5, x6, some (frq q), y8, y9, y10, y11, x12, x13, x14, x15] s
  | [], x0, x1, x2, x3, x4, x5, x6, x8, x9, x10, x11, x12, x13, x14, x15, _ => ⟨x5, x8, x9, x10, x11, by simp [loopFor, hh]⟩
  | r :: rs, x0, x1, x2, x3, x4, x5, x6, x8, x9, x10, x11, x12, x13, x14, x15, hr => by
    obtain ⟨y5, y9, y10, y11, e⟩ := turn2 k s q r hq (hr r List.mem_cons_self) x0 x1 x2 x3 x4 x5 x6 x9 x10 x11 x12 x13 x14 x15
    obtain ⟨z5, z8, z9, z10, z11, e2⟩ := loop2 k s gd hh q hq rs x0 x1 x2 x3 x4 y5 x6 (some (frq r)) y9 y10 y11 x12 x13 x14 x15 fun r hr' => hr r (List.mem_cons_of_mem _ hr')
    refine ⟨z5, z8, z9, z10, z11, ?_⟩
    rw [← e2, List.map_cons, loopFor, if_pos hh]
    have hg : evG (cfg.ct (run cfg (k + 10)) none) (.v 8) (frq r) [x0, x1, x2, x3, x4, x5, x6, some (frq q), x8, x9, x10, x11, x12, x13, x14, x15] s = .ok [x0, x1, x2, x3, x4, x5, x6, some (frq q), some (frq r), x9, x10, x11, x12, x13, x14, x15] s := by simp
    rw [hg]
    simp only []
    rw [e]
theorem loop3 (k : Nat) (s : Sto) (qs : List Q) (hs : s[2]? = some (.lst (qs.map frq))) (hq : ∀ q ∈ qs, Small q) : ∀ (rs : List Q) (x0 x1 x3 x4 x5 x6 x7 x8 x9 x10 x11 x12 x13 x14 x15 : Dn), (∀ r ∈ rs, Small r) →
    ∃ y5 y7 y8 y9 y10 y11 : Dn, loopFor [(2, qs.map frq)] (evG (cfg.ct (run cfg (k + 10)) none) (.v 7)) (exSs (cfg.ct (run cfg (k + 10)) none) b1) (rs.map frq) [x0, x1, some (.ref 2), x3, x4, x5, x6, x7, x8, x9, x10, x11, x12, x13, x14, x15] s =
      .nx [x0, x1, some (.ref 2), x3, x4, y5, x6, y7, y8, y9, y10, y11, x12, x13, x14, x15] s
  | [], x0, x1, x3, x4, x5, x6, x7, x8, x9, x10, x11, x12, x13, x14, x15, _ => ⟨x5, x7, x8, x9, x10, x11, by simp [loopFor, held, hs]⟩
  | r :: rs, x0, x1, x3, x4, x5, x6, x7, x8, x9, x10, x11, x12, x13, x14, x15, hr => by
    have hh : held [(2, qs.map frq)] s = true := by simp [held, hs]
    obtain ⟨y5, y8, y9, y10, y11, e⟩ := loop2 k s [(2, qs.map frq)] hh r (hr r List.mem_cons_self) qs x0 x1 (some (.ref 2)) x3 x4 x5 x6 x8 x9 x10 x11 x12 x13 x14 x15 hq
    obtain ⟨z5, z7, z8, z9, z10, z11, e2⟩ := loop3 k s qs hs hq rs x0 x1 x3 x4 y5 x6 (some (frq r)) y8 y9 y10 y11 x12 x13 x14 x15 fun r hr' => hr r (List.mem_cons_of_mem _ hr')
    refine ⟨z5, z7, z8, z9, z10, z11, ?_⟩
    rw [← e2, List.map_cons, loopFor, if_pos hh]
    have hg : evG (cfg.ct (run cfg (k + 10)) none) (.v 7) (frq r) [x0, x1, some (.ref 2), x3, x4, x5, x6, x7, x8, x9, x10, x11, x12, x13, x14, x15] s = .ok [x0, x1, some (.ref 2), x3, x4, x5, x6, some (frq r), x8, x9, x10, x11, x12, x13, x14, x15] s := by simp
    rw [hg]
    simp only []
    have hi : Pi.itemsOf s (.ref 2) = some (qs.map frq) := by simp [itemsOf, seqOf, Pi.listOf, hs]
    have hgd : guardOf s (.ref 2) = [(2, qs.map frq)] := by simp [guardOf, hs]
    have : exSs (cfg.ct (run cfg (k + 10)) none) b1 [x0, x1, some (.ref 2), x3, x4, x5, x6, some (frq r), x8, x9, x10, x11, x12, x13, x14, x15] s = .nx [x0, x1, some (.ref 2), x3, x4, y5, x6, some (frq r), y8, y9, y10, y11, x12, x13, x14, x15] s := by
      have e' := e
      simp [hi, hgd] at e' ⊢
      rw [e']
      simp
    rw [this]
/-! ### least and greatest -/
def leQ (a b : Q) : Prop := a.1 * b.2 ≤ b.1 * a.2
theorem leQ_refl (a : Q) : leQ a a := Int.le_refl _
theorem leQ_trans {a b c : Q} (ha : 0 < a.2) (hb : 0 < b.2) (hc : 0 < c.2) (h1 : leQ a b) (h2 : leQ b c) : leQ a c := by
  unfold leQ at *
  have e1 : (a.1 * b.2) * c.2 ≤ (b.1 * a.2) * c.2 := Int.mul_le_mul_of_nonneg_right h1 (Int.le_of_lt hc)
  have e2 : (b.1 * c.2) * a.2 ≤ (c.1 * b.2) * a.2 := Int.mul_le_mul_of_nonneg_right h2 (Int.le_of_lt ha)
  have e3 : (a.1 * c.2) * b.2 ≤ (c.1 * a.2) * b.2 := by
    have x1 : (a.1 * c.2) * b.2 = (a.1 * b.2) * c.2 := by ac_rfl
    have x2 : (c.1 * a.2) * b.2 = (c.1 * b.2) * a.2 := by ac_rfl
    have x3 : (b.1 * a.2) * c.2 = (b.1 * c.2) * a.2 := by ac_rfl
    rw [x1, x2]; rw [x3] at e1
    exact Int.le_trans e1 e2
  exact Int.le_of_mul_le_mul_right e3 hb
theorem least_ok : ∀ (qs : List Q) (f : Q), 0 < f.2 → (∀ q ∈ qs, 0 < q.2) → 0 < (leastF f qs).2 ∧ (leastF f qs) ∈ f :: qs ∧ ∀ q ∈ f :: qs, leQ (leastF f qs) q
  | [], f, hf, _ => ⟨hf, by simp [leastF], fun q hq => by rw [List.mem_singleton.mp hq]; exact leQ_refl _⟩
  | o :: qs, f, hf, hq => by
    have ho := hq o List.mem_cons_self
    have hr : ∀ q ∈ qs, 0 < q.2 := fun q h => hq q (List.mem_cons_of_mem _ h)
    by_cases h : ltQ o f = true
    · obtain ⟨h1, h2, h3⟩ := least_ok qs o ho hr
      have e : leastF f (o :: qs) = leastF o qs := by rw [leastF, if_pos h]
      rw [e]
      have hl : leQ o f := by unfold ltQ at h; unfold leQ; have := of_decide_eq_true h; omega
      refine ⟨h1, List.mem_cons_of_mem _ h2, fun q hm => ?_⟩
      rcases List.mem_cons.mp hm with rfl | hm
      · exact leQ_trans h1 ho hf (h3 o List.mem_cons_self) hl
      · exact h3 q hm
    · obtain ⟨h1, h2, h3⟩ := least_ok qs f hf hr
      have e : leastF f (o :: qs) = leastF f qs := by rw [leastF, if_neg h]
      rw [e]
      have hl : leQ f o := by unfold ltQ at h; unfold leQ; have : ¬ (o.1 * f.2 < f.1 * o.2) := fun z => h (decide_eq_true z); omega
      refine ⟨h1, ?_, fun q hm => ?_⟩
      · rcases List.mem_cons.mp h2 with h2 | h2
        · rw [h2]; exact List.mem_cons_self
        · exact List.mem_cons_of_mem _ (List.mem_cons_of_mem _ h2)
      · rcases List.mem_cons.mp hm with rfl | hm
        · exact h3 q List.mem_cons_self
        · rcases List.mem_cons.mp hm with rfl | hm
          · exact leQ_trans h1 hf ho (h3 f List.mem_cons_self) hl
          · exact h3 q (List.mem_cons_of_mem _ hm)
theorem great_ok : ∀ (qs : List Q) (f : Q), 0 < f.2 → (∀ q ∈ qs, 0 < q.2) → 0 < (greatF f qs).2 ∧ (greatF f qs) ∈ f :: qs ∧ ∀ q ∈ f :: qs, leQ q (greatF f qs)
  | [], f, hf, _ => ⟨hf, by simp [greatF], fun q hq => by rw [List.mem_singleton.mp hq]; exact leQ_refl _⟩
  | o :: qs, f, hf, hq => by
    have ho := hq o List.mem_cons_self
    have hr : ∀ q ∈ qs, 0 < q.2 := fun q h => hq q (List.mem_cons_of_mem _ h)
    by_cases h : ltQ f o = true
    · obtain ⟨h1, h2, h3⟩ := great_ok qs o ho hr
      have e : greatF f (o :: qs) = greatF o qs := by rw [greatF, if_pos h]
      rw [e]
      have hl : leQ f o := by unfold ltQ at h; unfold leQ; have := of_decide_eq_true h; omega
      refine ⟨h1, List.mem_cons_of_mem _ h2, fun q hm => ?_⟩
      rcases List.mem_cons.mp hm with rfl | hm
      · exact leQ_trans hf ho h1 hl (h3 o List.mem_cons_self)
      · exact h3 q hm
    · obtain ⟨h1, h2, h3⟩ := great_ok qs f hf hr
      have e : greatF f (o :: qs) = greatF f qs := by rw [greatF, if_neg h]
      rw [e]
      have hl : leQ o f := by unfold ltQ at h; unfold leQ; have : ¬ (f.1 * o.2 < o.1 * f.2) := fun z => h (decide_eq_true z); omega
      refine ⟨h1, ?_, fun q hm => ?_⟩
      · rcases List.mem_cons.mp h2 with h2 | h2
        · rw [h2]; exact List.mem_cons_self
        · exact List.mem_cons_of_mem _ (List.mem_cons_of_mem _ h2)
      · rcases List.mem_cons.mp hm with rfl | hm
        · exact h3 q List.mem_cons_self
        · rcases List.mem_cons.mp hm with rfl | hm
          · exact leQ_trans ho hf h1 hl (h3 f List.mem_cons_self)
          · exact h3 q (List.mem_cons_of_mem _ hm)
end K32

set_option maxRecDepth 100000
set_option maxHeartbeats 8000000
namespace K32
open PySem Pi PyProof.Rows
theorem pl_frs : ∀ qs : List Q, plAll (qs.map frq) = true
  | [] => rfl
  | q :: qs => by rw [List.map_cons, plAll, pl_frs qs]; rfl
theorem dep_frs : ∀ qs : List Q, PyData.depthAll (pdAll (qs.map frq)) ≤ 3
  | [] => by simp [pdAll, PyData.depthAll]
  | q :: qs => by
    have := dep_frs qs
    simp only [List.map_cons, pdAll, PyData.depthAll, D.pd, PyData.depth]
    omega
theorem ne_frs {s : Sto} (qs : List Q) : cmpD .NotEq s (.lst (qs.map frq)) (.lst (qs.map frq)) = some false := ne_self (pl_frs qs) (by
  have := dep_frs qs
  simp only [D.pd, PyData.depth, eqRoom]
  omega)
theorem listOf2 {s : Sto} {qs : List Q} (hs : s[2]? = some (.lst (qs.map frq))) : Pi.listOf s (.ref 2) = some (qs.map frq) := by simp [Pi.listOf, hs]
theorem do5 (k : Nat) (s : Sto) (q0 : Q) (qs : List Q) (hs : s[2]? = some (.lst ((q0 :: qs).map frq))) (hq : ∀ q ∈ q0 :: qs, Small q) (hl : qs.length < 10) (x0 x1 x3 x4 x5 x6 x7 x8 x9 x10 x11 x12 x13 x14 x15 : Dn) :
    exS (cfg.ct (run cfg (k + 10)) none) st5 [x0, x1, some (.ref 2), x3, x4, x5, x6, x7, x8, x9, x10, x11, x12, x13, x14, x15] s = .nx [x0, x1, some (.ref 2), x3, x4, x5, x6, x7, x8, x9, x10, x11, x12, x13, x14, x15] s := by
  have hb : ∀ r ∈ q0 :: qs, Bd r := fun r hr => (hq r hr).bd
  have hp : ∀ r ∈ q0 :: qs, 0 < r.2 := fun r hr => (hq r hr).2.1
  have r1 := run_least (k + 8) s (.ref 2) q0 qs (listOf2 hs) hb
  have r2 := run_great (k + 8) s (.ref 2) q0 qs (listOf2 hs) hb
  obtain ⟨l1, l2, l3⟩ := least_ok qs q0 (hp q0 List.mem_cons_self) fun q h => hp q (List.mem_cons_of_mem _ h)
  obtain ⟨g1, g2, g3⟩ := great_ok qs q0 (hp q0 List.mem_cons_self) fun q h => hp q (List.mem_cons_of_mem _ h)
  generalize leastF q0 qs = lo at *
  generalize greatF q0 qs = hi at *
  have hi2 := items_list (listOf2 hs)
  have hsq : seqOf s (.ref 2) = some ((q0 :: qs).map frq) := by simp [seqOf, listOf2 hs]
  have n1 : cmpD .NotIn s (frq lo) (.ref 2) = some false := in_self hsq (fun x h => by cases h) rfl (pl_frs _) (depth_fr _ _) (List.mem_map_of_mem l2)
  have n2 : cmpD .NotIn s (frq hi) (.ref 2) = some false := in_self hsq (fun x h => by cases h) rfl (pl_frs _) (depth_fr _ _) (List.mem_map_of_mem g2)
  have hc : compR (evI (cfg.ct (run cfg (k + 10)) none) (.ex (.v 2))) (evG (cfg.ct (run cfg (k + 10)) none) (.v 7)) (evT (cfg.ct (run cfg (k + 10)) none) .none)
      (evE (cfg.ct (run cfg (k + 10)) none) (.and (.not (.call "_law_less" (.cons (.v 7) (.cons (.call "least" (.cons (.v 2) .nil)) .nil)))) (.not (.call "_law_less" (.cons (.call "greatest" (.cons (.v 2) .nil)) (.cons (.v 7) .nil))))))
      [13, 7] [x0, x1, some (.ref 2), x3, x4, x5, x6, x7, x8, x9, x10, x11, x12, x13, x14, x15] s = .ok (.lst (((q0 :: qs).map frq).map fun _ => .bl true)) s := by
    refine compR_map (ds := (q0 :: qs).map frq) (gd := guardOf s (.ref 2)) (fun _ => .bl true) (by simp [hi2.1]) hi2.2 (by rw [sizeLine_eq]; simp; omega) fun d hd => ?_
    obtain ⟨r, hr, rfl⟩ := List.mem_map.mp hd
    refine ⟨[x0, x1, some (.ref 2), x3, x4, x5, x6, some (frq r), x8, x9, x10, x11, x12, none, x14, x15], by simp [wipeE], by simp, ?_⟩
    have b1 := hb lo l2
    have b2 := hb hi g2
    have b3 := hb r hr
    have c1 := run_lless (k + 9) s b3.1 b3.2 b1.1 b1.2
    have c2 := run_lless (k + 9) s b2.1 b2.2 b3.1 b3.2
    have e1 : ¬ r.1 * lo.2 < lo.1 * r.2 := Int.not_lt.mpr (l3 r hr)
    have e2 : ¬ hi.1 * r.2 < r.1 * hi.2 := Int.not_lt.mpr (g3 r hr)
    simp only [decide_eq_false e1] at c1
    simp only [decide_eq_false e2] at c2
    simp [r1, r2, c1, c2]
  have ha : biD .all s [.lst (((q0 :: qs).map frq).map fun _ => D.bl true)] = some (.bl (((q0 :: qs).map frq).all fun _ => true)) := D_all (f := fun _ => true)
  have ha2 : (((q0 :: qs).map frq).all fun _ => true) = true := by simp
  rw [ha2] at ha
  generalize hL : ((q0 :: qs).map frq).map (fun _ => D.bl true) = L at *
  clear hi2
  simp [hc, ha, n1, n2, r1, r2]
end K32

set_option maxRecDepth 100000
set_option maxHeartbeats 8000000
namespace K32
open PySem Pi PyProof.Rows
def negD' : D → D
  | .tup [.int n, .int m] => fr (-n) m
  | d => d
theorem neg_map : ∀ qs : List Q, (qs.map frq).map negD' = (qs.map fun q => ((-q.1, q.2) : Q)).map frq
  | [] => rfl
  | q :: qs => by rw [List.map_cons, List.map_cons, neg_map qs]; rfl
theorem do6 (k : Nat) (s : Sto) (qs : List Q) (hs : s[2]? = some (.lst (qs.map frq))) (hq : ∀ q ∈ qs, Small q) (hl : qs.length ≤ 10) (x0 x1 x3 x4 x5 x6 x7 x8 x9 x10 x11 x12 x13 x14 x15 : Dn) :
    exS (cfg.ct (run cfg (k + 10)) none) st6 [x0, x1, some (.ref 2), x3, x4, x5, x6, x7, x8, x9, x10, x11, x12, x13, x14, x15] s = .nx [x0, x1, some (.ref 2), x3, x4, x5, x6, x7, x8, x9, x10, x11, x12, x13, x14, x15] s := by
  have r1 := run_total (k + 6) s (.ref 2) qs (listOf2 hs) hl hq
  have r2 := run_lsum (k + 7) s (.ref 2) qs (listOf2 hs) hl hq
  have r3 := run_total (k + 6) s (.lst []) [] rfl (by decide) (fun r h => by cases h)
  have r3 : run cfg (k + 6 + 4) none "total" [.lst []] s = .ok (fr 0 1) s := r3
  have hi2 := items_list (listOf2 hs)
  have c1 : compR (evI (cfg.ct (run cfg (k + 10)) none) (.ex (.v 2))) (evG (cfg.ct (run cfg (k + 10)) none) (.v 7)) (evT (cfg.ct (run cfg (k + 10)) none) .none)
      (evE (cfg.ct (run cfg (k + 10)) none) (.call "negative" (.cons (.v 7) .nil)))
      [13, 7] [x0, x1, some (.ref 2), x3, x4, x5, x6, x7, x8, x9, x10, x11, x12, x13, x14, x15] s = .ok (.lst ((qs.map frq).map negD')) s := by
    refine compR_map (ds := qs.map frq) (gd := guardOf s (.ref 2)) negD' (by simp [hi2.1]) hi2.2 (by rw [sizeLine_eq]; simp; omega) fun d hd => ?_
    obtain ⟨r, hr, rfl⟩ := List.mem_map.mp hd
    refine ⟨[x0, x1, some (.ref 2), x3, x4, x5, x6, some (frq r), x8, x9, x10, x11, x12, none, x14, x15], by simp [wipeE], by simp, ?_⟩
    simp [run_negative (k + 9) s r.1 r.2, negD']
  have c2 : compR (evI (cfg.ct (run cfg (k + 10)) none) (.ex (.v 2))) (evG (cfg.ct (run cfg (k + 10)) none) (.v 7)) (evT (cfg.ct (run cfg (k + 10)) none) .none)
      (evE (cfg.ct (run cfg (k + 10)) none) (.tup (.cons (.bin .Sub (.c (.int 0)) (.idx (.v 7) (.c (.int 0)))) (.cons (.idx (.v 7) (.c (.int 1))) .nil))))
      [13, 7] [x0, x1, some (.ref 2), x3, x4, x5, x6, x7, x8, x9, x10, x11, x12, x13, x14, x15] s = .ok (.lst ((qs.map frq).map negD')) s := by
    refine compR_map (ds := qs.map frq) (gd := guardOf s (.ref 2)) negD' (by simp [hi2.1]) hi2.2 (by rw [sizeLine_eq]; simp; omega) fun d hd => ?_
    obtain ⟨r, hr, rfl⟩ := List.mem_map.mp hd
    refine ⟨[x0, x1, some (.ref 2), x3, x4, x5, x6, some (frq r), x8, x9, x10, x11, x12, none, x14, x15], by simp [wipeE], by simp, ?_⟩
    simp [at0, at1, calm_none, negD']
  have e1 := ne_frs (s := s) (qs.map fun q => ((-q.1, q.2) : Q))
  rw [← neg_map] at e1
  generalize (qs.map frq).map negD' = L at *
  clear hi2
  simp [r1, r2, r3, ne_fr, calm_none, c1, c2, e1]
abbrev wrong : List D := [.int 5, .tup [], .tup [.int 1], fr 1 0, fr 1 (-1), fr 2 4, fr 0 2, .tup [.str "a", .int 1], .tup [.int 1, .str "a"], .lst [.int 1, .int 1], .tup [.int 1, .int 1, .int 1], .non]
theorem do7 (cx : Ct) (hx : cx.hd = none) (s : Sto) (x0 x1 x2 x3 x4 x5 x6 x7 x8 x9 x10 x11 x12 x13 x14 x15 : Dn) :
    exS cx st7 [x0, x1, x2, x3, x4, x5, x6, x7, x8, x9, x10, x11, x12, x13, x14, x15] s = .nx [x0, x1, x2, x3, x4, x5, x6, x7, x8, x9, x10, x11, some (.lst wrong), x13, x14, x15] s := by
  simp [hx, calm_none]
theorem isf_wrong (k : Nat) (s : Sto) (d : D) (h : d ∈ wrong) : run cfg (k + 2) none "is_fraction" [d] s = .ok (.bl false) s := by
  have big : ∀ {n : Nat}, n ≤ 60 → n < 2 ^ 200 := fun h => Nat.lt_of_le_of_lt h (by decide)
  simp only [wrong, List.mem_cons, List.not_mem_nil, or_false] at h
  rcases h with rfl | rfl | rfl | rfl | rfl | rfl | rfl | rfl | rfl | rfl | rfl | rfl
  · exact run_isf_no k s _ rfl (fun ds h => by cases h)
  · exact run_isf k s _ (by simp) rfl (.inl (by simp))
  · exact run_isf k s _ (by simp) rfl (.inl (by simp))
  · exact (run_isf_int k s 1 0 (big (by decide))).trans (by congr 1)
  · exact (run_isf_int k s 1 (-1) (big (by decide))).trans (by congr 1)
  · exact (run_isf_int k s 2 4 (big (by decide))).trans (by congr 1)
  · exact (run_isf_int k s 0 2 (big (by decide))).trans (by congr 1)
  · exact run_isf k s _ (by simp) rfl (.inr rfl)
  · exact run_isf k s _ (by simp) rfl (.inr rfl)
  · exact run_isf_no k s _ rfl (fun ds h => by cases h)
  · exact run_isf k s _ (by simp) rfl (.inl (by simp))
  · exact run_isf_no k s _ rfl (fun ds h => by cases h)
theorem do8 (k : Nat) (s : Sto) (x0 x1 x2 x3 x4 x5 x6 x7 x8 x9 x10 x11 x13 x14 x15 : Dn) :
    exS (cfg.ct (run cfg (k + 10)) none) st8 [x0, x1, x2, x3, x4, x5, x6, x7, x8, x9, x10, x11, some (.lst wrong), x13, x14, x15] s = .nx [x0, x1, x2, x3, x4, x5, x6, x7, x8, x9, x10, x11, some (.lst wrong), x13, x14, x15] s := by
  have big : ∀ {n : Nat}, n ≤ 60 → n < 2 ^ 200 := fun h => Nat.lt_of_le_of_lt h (by decide)
  have c1 : compR (evI (cfg.ct (run cfg (k + 10)) none) (.ex (.v 12))) (evG (cfg.ct (run cfg (k + 10)) none) (.v 15)) (evT (cfg.ct (run cfg (k + 10)) none) .none)
      (evE (cfg.ct (run cfg (k + 10)) none) (.call "is_fraction" (.cons (.v 15) .nil)))
      [13, 15] [x0, x1, x2, x3, x4, x5, x6, x7, x8, x9, x10, x11, some (.lst wrong), x13, x14, x15] s = .ok (.lst (wrong.map fun _ => .bl false)) s := by
    refine compR_map (ds := wrong) (gd := []) (fun _ => .bl false) (by simp [itemsOf, seqOf, Pi.listOf, guardOf]) rfl (by rw [sizeLine_eq]; simp) fun d hd => ?_
    refine ⟨[x0, x1, x2, x3, x4, x5, x6, x7, x8, x9, x10, x11, some (.lst wrong), none, x14, some d], by simp [wipeE], by simp, ?_⟩
    simp [isf_wrong (k + 8) s d hd]
  have m1 : binD .Mult s (.lst [.bl false]) (.int 12) = some (.lst (wrong.map fun _ => .bl false)) := rfl
  have e1 : cmpD .NotEq s (.lst (wrong.map fun _ => .bl false)) (.lst (wrong.map fun _ => .bl false)) = some false := ne_self rfl (by decide +kernel)
  have f1 : run cfg (k + 7 + 3) none "fraction" [.int 6, .int (-4)] s = .ok (fr (-3) 2) s := (run_fraction (k + 7) s 6 (-4) (big (by decide))).trans (by rw [if_neg (by decide)]; congr 1)
  have f2 : run cfg (k + 7 + 3) none "fraction" [.int 0, .int (-9)] s = .ok (fr 0 1) s := (run_fraction (k + 7) s 0 (-9) (big (by decide))).trans (by rw [if_neg (by decide)]; congr 1)
  have w1 := run_whole (k + 9) s 7
  generalize (wrong.map fun _ => D.bl false) = L at *
  simp [c1, m1, e1, f1, f2, w1, ne_fr, calm_none]
theorem do9 (k : Nat) (s : Sto) (e : Pi.Env) : exS (cfg.ct (run cfg (k + 10)) none) st9 e s = .rt (.bl true) s := by
  have big : ∀ {n : Nat}, n ≤ 60 → n < 2 ^ 90 := fun h => Nat.lt_of_le_of_lt h (by decide)
  have big2 : ∀ {n : Nat}, n ≤ 60 → n < 2 ^ 200 := fun h => Nat.lt_of_le_of_lt h (by decide)
  have a1 : run cfg (k + 6 + 4) none "_law_asked" [.int 0, .int 1, .int 0] s = .ok (.str "!number") s := run_asked (k + 6) s 0 (.int 1) (.int 0) (.exc bad s) ((if_pos rfl).trans ((run_fraction (k + 6) s 1 0 (big2 (by decide))).trans (if_pos rfl))) (.inr rfl)
  have a2 : run cfg (k + 6 + 4) none "_law_asked" [.int 0, .str "a", .int 1] s = .ok (.str "!number") s := run_asked (k + 6) s 0 (.str "a") (.int 1) (.exc bad s) ((if_pos rfl).trans (run_fraction_s1 (k + 6) s "a" 1)) (.inr rfl)
  have a3 : run cfg (k + 6 + 4) none "_law_asked" [.int 0, .int 1, .str "a"] s = .ok (.str "!number") s := run_asked (k + 6) s 0 (.int 1) (.str "a") (.exc bad s) ((if_pos rfl).trans (run_fraction_s2 (k + 6) s 1 "a")) (.inr rfl)
  have a4 : run cfg (k + 6 + 4) none "_law_asked" [.int 1, fr 1 1, fr 0 1] s = .ok (.str "!number") s := run_asked (k + 6) s 1 (fr 1 1) (fr 0 1) (.exc bad s) ((if_neg (by decide)).trans ((run_over (k + 6) s (n := 1) (d := 1) (n' := 0) (d' := 1) (by decide) (big (by decide)) (big (by decide)) (big (by decide)) (big (by decide))).trans (if_pos rfl))) (.inr rfl)
  have m1 : binD .Mult s (.lst [.str "!number"]) (.int 4) = some (.lst [.str "!number", .str "!number", .str "!number", .str "!number"]) := rfl
  have e1 : cmpD .Eq s (.lst [.str "!number", .str "!number", .str "!number", .str "!number"]) (.lst [.str "!number", .str "!number", .str "!number", .str "!number"]) = some true := eq_self' rfl (by decide +kernel)
  simp [a1, a2, a3, a4, m1, e1, calm_none]
end K32

set_option maxRecDepth 100000
set_option maxHeartbeats 8000000
namespace K32
open PySem Pi PyProof.Rows
theorem law_body : d_law.body = .cons st0 (.cons st1 (.cons st2 (.cons st3 (.cons st4 (.cons st5 (.cons st6 (.cons st7 (.cons st8 (.cons st9 .nil))))))))) := by kernel_rfl
theorem run_law (is : List Int) (h : is.length ≤ 63) : run cfg 60 none "law" [.scr is] [] = .ok (.bl true) [] := by
  rw [run_def (k := 59) d_law g_law rfl (by decide) (.inl rfl)]
  obtain ⟨js, hj, hl, r1⟩ := run_draws 57 is h
  obtain ⟨A, ms, r2⟩ := run_more 57 js hj hl
  have hst : startE d_law [.scr is] = [some (.scr is), none, none, none, none, none, none, none, none, none, none, none, none, none, none, none] := rfl
  rw [law_body, hst]
  have e0 : exS (cfg.ct (run cfg 59) none) st0 [some (.scr is), none, none, none, none, none, none, none, none, none, none, none, none, none, none, none] [] = .nx [some (.scr is), some (.ref 0), none, none, none, none, none, none, none, none, none, none, none, none, none, none] [.lst (intL js)] := by
    simp [r1]
  rw [R_cons, e0, seq_nx]
  have e1 : exS (cfg.ct (run cfg 59) none) st1 [some (.scr is), some (.ref 0), none, none, none, none, none, none, none, none, none, none, none, none, none, none] [.lst (intL js)] = .nx [some (.scr is), some (.ref 1), none, none, none, none, none, none, none, none, none, none, none, none, none, none] [.lst (intL A), .lst (intL ms)] := by
    simp [r2]
  rw [R_cons, e1, seq_nx]
  have e2 : exS (cfg.ct (run cfg 59) none) st2 [some (.scr is), some (.ref 1), none, none, none, none, none, none, none, none, none, none, none, none, none, none] [.lst (intL A), .lst (intL ms)] = .nx [some (.scr is), some (.ref 1), some (.ref 2), none, none, none, none, none, none, none, none, none, none, none, none, none] [.lst (intL A), .lst (intL ms), .lst []] := by
    simp [calm_none, matR]
  rw [R_cons, e2, seq_nx]
  obtain ⟨qs, js', y3, y4, y5, y6, q1, q2, q3⟩ := loop1 49 (.lst (intL A)) (rangeOf 0 6) [] ms (some (.scr is)) none none none none none none none none none none none none none (by simp [rangeOf]) (fun q hq => by cases hq)
  have q1 : qs.length = 6 := by simpa [rangeOf] using q1
  have hr : ∀ s : Sto, rangeK [.int 6] s = .ok (rangeOf 0 6, []) s := fun s => by simp [rangeK, rangeD, small62]
  have e3 : exS (cfg.ct (run cfg 59) none) st3 [some (.scr is), some (.ref 1), some (.ref 2), none, none, none, none, none, none, none, none, none, none, none, none, none] [.lst (intL A), .lst (intL ms), .lst []] = .nx [some (.scr is), some (.ref 1), some (.ref 2), y3, y4, y5, y6, none, none, none, none, none, none, none, none, none] [.lst (intL A), .lst (intL js'), .lst (qs.map frq)] := by
    rw [st3, R_for, Q_r1, Q_c, Res.bind_ok, hr, thenO_ok]
    exact q3
  rw [R_cons, e3, seq_nx]
  have hs : ([Ob.lst (intL A), .lst (intL js'), .lst (qs.map frq)] : Sto)[2]? = some (.lst (qs.map frq)) := rfl
  generalize hS : ([Ob.lst (intL A), .lst (intL js'), .lst (qs.map frq)] : Sto) = s at *
  obtain ⟨z5, z7, z8, z9, z10, z11, e4⟩ := loop3 49 s qs hs q2 qs (some (.scr is)) (some (.ref 1)) y3 y4 y5 y6 none none none none none none none none none q2
  have hgd : guardOf s (.ref 2) = [(2, qs.map frq)] := by simp [guardOf, hs]
  have hit := (items_list (listOf2 hs)).1
  have e4 : exS (cfg.ct (run cfg 59) none) st4 [some (.scr is), some (.ref 1), some (.ref 2), y3, y4, y5, y6, none, none, none, none, none, none, none, none, none] s = .nx [some (.scr is), some (.ref 1), some (.ref 2), y3, y4, z5, y6, z7, z8, z9, z10, z11, none, none, none, none] s := by
    rw [st4, R_for, Q_ix]
    simp only [Q_vS, Q_v0, Res.bind_ok, show evE (cfg.ct (run cfg 59) none) (.v 2) [some (.scr is), some (.ref 1), some (.ref 2), y3, y4, y5, y6, none, none, none, none, none, none, none, none, none] s = .ok (.ref 2) s by simp, hit, hgd, thenO_ok]
    exact e4
  rw [R_cons, e4, seq_nx]
  obtain ⟨q0, qr, rfl⟩ : ∃ q0 qr, qs = q0 :: qr := by
    cases qs with
    | nil => cases q1
    | cons a b => exact ⟨a, b, rfl⟩
  rw [R_cons, do5 49 s q0 qr hs q2 (by simp at q1; omega), seq_nx]
  rw [R_cons, do6 49 s (q0 :: qr) hs q2 (by omega), seq_nx]
  rw [R_cons, do7 _ rfl, seq_nx]
  rw [R_cons, do8 49, seq_nx]
  rw [R_cons, do9 49, seq_rt]
  show leave [] _ (.bl true) s = _
  unfold leave
  rw [if_pos (by simp [backOk]), if_pos (show (D.bl true).pl = true from rfl)]
  rfl
end K32

set_option maxRecDepth 100000
set_option maxHeartbeats 0
namespace K32
open PySem PySem.Spec PyProof.Rows L2 Pi
def allNames : List Str := PySem.Challenge.pw_deedscharged_k32_fractions.main.body.filterMap fun | .FunctionDef n .. => some n | .ClassDef n .. => some n | .Assign [.Name n _] _ _ => some n | _ => none
abbrev R : PySem.W.OpenRow := PySem.W.OpenLaw.row PySem.Challenge.rw_deedscharged_k32_fractions
abbrev hk : PySem.W.Hook := hookP 4 L.fa L.fn L.ex
def ob (s : PySem.W.SharedT) : He.AlD := obsPG 4 L.fa L.fn L.ex (HandSHeadRun.getT s)
theorem ob_eq (s : PySem.W.SharedT) : ob s = hk.obs s.abs := obsPG_eq (HandSHeadRun.getT_eq s)


theorem run (w : World) : HandSHeadRun.RunEq R (PySem.W.view R.prog [39]) hk ob 4000 (allNames.filter fun x => decide (x ≠ "__name__" ∧ x ≠ "law")) w := by
  intro os
  kernel_rfl
end K32
open PySem PySem.W PySem.Calls PyProof.Rows in
theorem PySem.Challenge.cw_deedscharged_k32_fractions_holds : PySem.Challenge.rw_deedscharged_k32_fractions.Holds := by
  w_on; o_law
  refine HandSHeadRun.head_any (r := OpenLaw.row PySem.Challenge.rw_deedscharged_k32_fractions) (q := view (OpenLaw.row PySem.Challenge.rw_deedscharged_k32_fractions).prog [39]) (H := K32.hk) (ob := K32.ob) (M := 4000) (loose := K32.allNames.filter fun x => decide (x ≠ "__name__" ∧ x ≠ "law")) (d := HandSHeadRun.topDef (OpenLaw.row PySem.Challenge.rw_deedscharged_k32_fractions).prog 39) (kwd := []) K32.ob_eq
    (by kernel_rfl) (fun s => by kernel_rfl) K32.run (by kernel_rfl) (by kernel_rfl) (by kernel_rfl) (by rfl) (by first | assumption | decide +kernel) (by decide +kernel) ⟨rfl, rfl, rfl, rfl, rfl, by decide +kernel⟩ ?hw ?hc
  case hw => w_witness2
  case hc =>
    have hname : (HandSHeadRun.topDef (OpenLaw.row PySem.Challenge.rw_deedscharged_k32_fractions).prog 39).name = ("law" : PySem.Str) := by kernel_rfl
    refine Pi.walk_ofP (l := PySem.Challenge.rw_deedscharged_k32_fractions) (n := 63) (k := 60) (cfg := K32.L.cfg (10 ^ 100)) (gl := K32.L.gl) (nn := 60) rfl (by decide) (by kernel_rfl) ⟨by decide, by decide, rfl⟩ (by rw [hname]; kernel_rfl) ?F ?hrun
    case F =>
      intro w mg fa h Y G hmg
      obtain ⟨K, KX, c, e⟩ := Y
      exact ⟨K, KX, Pi.lawOk _ KX G c e K32.wf⟩
    case hrun =>
      rw [hname]
      exact fun is h => K32.run_law is h


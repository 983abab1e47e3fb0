import PyProof.Rows.All
import PySem.Challenge.RW_toldcost_k75_quotients_together
import Wide.All
import OpenK.AllK
import Wide.FinOn
import KE.DataEq
import HandS.ForMost
import HandS.IsInst
import HandS.TupAny
import HandS.TupLe
import HandS.Wide
import HandS.Flow
import HandS.AnyAll
import HandS.GenList
import HandS.Defaults
import HandS.Head0
import HandS.Head1
import HandS.Head2
import HandS.HeadEnd
import HandS.HeadHook1
import HandS.HeadHook2
import HandS.HeadWalk
set_option Elab.async false
set_option linter.all false
set_option maxRecDepth 100000
set_option maxHeartbeats 4000000
/-! Rv: data, an abstract store, a small syntax, its evaluator (plain Lean, no heap). -/
namespace Rv
open PySem PySem.Spec PyProof.Rows L2

/-- data: ref n is the n-th cell of the store; frl a list that nobody writes -/
inductive D where
  | non | bl (b : Bool) | int (i : Int) | str (x : Str) | ty (n : String) | tup (xs : List D) | ref (n : Nat) | frl (xs : List D)
  deriving Inhabited
mutual
def D.beq : D → D → Bool
  | .non, .non => true
  | .bl a, .bl b => a == b
  | .int a, .int b => a == b
  | .str a, .str b => decide (a = b)
  | .ty a, .ty b => a == b
  | .tup a, .tup b => D.beqs a b
  | .ref a, .ref b => a == b
  | .frl a, .frl b => D.beqs a b
  | _, _ => false
def D.beqs : List D → List D → Bool
  | [], [] => true
  | a :: as, b :: bs => D.beq a b && D.beqs as bs
  | _, _ => false
end
mutual
theorem D.eq_of_beq : ∀ a b : D, D.beq a b = true → a = b
  | .non, b, h => by cases b <;> simp [D.beq] at h <;> rfl
  | .bl a, b, h => by cases b <;> simp [D.beq] at h; rw [h]
  | .int a, b, h => by cases b <;> simp [D.beq] at h; rw [h]
  | .str a, b, h => by cases b <;> simp [D.beq] at h; rw [h]
  | .ty a, b, h => by cases b <;> simp [D.beq] at h; rw [h]
  | .tup a, b, h => by
    cases b with
    | tup b => rw [D.eqs_of_beqs a b (by simpa [D.beq] using h)]
    | _ => simp [D.beq] at h
  | .ref a, b, h => by cases b <;> simp [D.beq] at h; rw [h]
  | .frl a, b, h => by
    cases b with
    | frl b => rw [D.eqs_of_beqs a b (by simpa [D.beq] using h)]
    | _ => simp [D.beq] at h
theorem D.eqs_of_beqs : ∀ a b : List D, D.beqs a b = true → a = b
  | [], [], _ => rfl
  | [], _ :: _, h => by simp [D.beqs] at h
  | _ :: _, [], h => by simp [D.beqs] at h
  | a :: as, b :: bs, h => by
    have h' : D.beq a b = true ∧ D.beqs as bs = true := by simpa [D.beqs] using h
    rw [D.eq_of_beq a b h'.1, D.eqs_of_beqs as bs h'.2]
end
mutual
theorem D.beq_refl : ∀ a : D, D.beq a a = true
  | .non => rfl
  | .bl a => by simp [D.beq]
  | .int a => by simp [D.beq]
  | .str a => by simp [D.beq]
  | .ty a => by simp [D.beq]
  | .tup a => by rw [D.beq]; exact D.beqs_refl a
  | .ref a => by simp [D.beq]
  | .frl a => by rw [D.beq]; exact D.beqs_refl a
theorem D.beqs_refl : ∀ a : List D, D.beqs a a = true
  | [] => rfl
  | a :: as => by rw [D.beqs, D.beq_refl a, D.beqs_refl as]; rfl
end
instance : DecidableEq D := fun a b => if h : D.beq a b = true then isTrue (D.eq_of_beq a b h) else isFalse fun e => h (e ▸ D.beq_refl a)
/-- cells -/
inductive O where
  | lst (xs : List D)
  deriving Inhabited
instance : DecidableEq O
  | .lst a, .lst b => if h : a = b then isTrue (by rw [h]) else isFalse fun e => h (O.lst.inj e)
abbrev Sto := List O
abbrev Env := List (Option D)
inductive Res (α : Type) where
  | ok (a : α) (S : Sto) | exc (x : D) (S : Sto) | bad
def Res.bind {α β : Type} (r : Res α) (k : α → Sto → Res β) : Res β := match r with
  | .ok a S => k a S
  | .exc x S => .exc x S
  | .bad => .bad
@[simp] theorem Res.bind_ok {α β : Type} (a : α) (S : Sto) (k : α → Sto → Res β) : (Res.ok a S).bind k = k a S := rfl
@[simp] theorem Res.bind_exc {α β : Type} (x : D) (S : Sto) (k : α → Sto → Res β) : (Res.exc x S).bind k = .exc x S := rfl
@[simp] theorem Res.bind_bad {α β : Type} (k : α → Sto → Res β) : (Res.bad).bind k = .bad := rfl
/-- an Option as a result -/
def Res.of {α : Type} (o : Option α) (S : Sto) : Res α := match o with
  | some a => .ok a S
  | none => .bad
@[simp] theorem Res.of_some {α : Type} (a : α) (S : Sto) : Res.of (some a) S = .ok a S := rfl
@[simp] theorem Res.of_none {α : Type} (S : Sto) : Res.of (none : Option α) S = .bad := rfl

/-- targets of a for, of a comprehension, of an assignment from a tuple -/
inductive P where
  | nm (i : Nat) | tp (ps : P) | nil | cons (p ps : P)
  deriving DecidableEq, Inhabited
/-- what binding a target does; a list of data for a row of targets -/
def bindP : P → List D → Env → Option Env
  | .nm i, [d], ρ => some (ρ.set i (some d))
  | .tp ps, [.tup ds], ρ => bindP ps ds ρ
  | .nil, [], ρ => some ρ
  | .cons p ps, d :: ds, ρ => (bindP p [d] ρ).bind fun ρ' => bindP ps ds ρ'
  | _, _, _ => none
inductive C where
  | non | bl (b : Bool) | int (i : Int) | str (x : Str)
  deriving DecidableEq, Inhabited
def C.d : C → D
  | .non => .non | .bl b => .bl b | .int i => .int i | .str x => .str x
/-- built-in functions and types that are called -/
inductive B where
  | len | abs | int | str | isi | tuple | list
  deriving DecidableEq, Inhabited
/-- methods of built-in types -/
inductive Mt where
  | append | partition | countB
  deriving DecidableEq, Inhabited
/-- expressions, argument lists (nil, cons), what is walked (range1 .. seqI), parts of slices (miss: none) -/
inductive E where
  | var (i : Nat) | con (c : C) | tyc (n : String) | glo (x : Str) (d : D)
  | bin (op : Operator) (a b : E) | neg (a : E) | not (a : E) | cmp (op : CmpOp) (a b : E) | cmp2 (op op' : CmpOp) (a b c : E)
  | and (a b : E) | or (a b : E) | one (a : E) | ite (c a b : E)
  | tup (es : E) | lst (es : E) | nil | cons (e es : E)
  | idx (a b : E) | slc (a lo hi : E) | miss
  | call (fn : Nat) (es : E) | blt (b : B) (es : E) | mth (m : Mt) (o es : E)
  | range1 (a : E) | range2 (a b : E) | seqI (a : E)
  | lc (own : List Nat) (p : P) (it c e : E)
  | allG (own : List Nat) (p : P) (it e : E)
  deriving Inhabited
/-! ### operations on data -/
mutual
/-- as == reads it, no cell within -/
def toP0 : D → Option PyData
  | .non => some .none
  | .bl b => some (.bool b)
  | .int i => some (.int i)
  | .str x => some (.str x)
  | .ty _ => none
  | .tup xs => (toPs xs).map .tuple
  | .frl xs => (toPs xs).map .list
  | .ref _ => none
def toPs : List D → Option (List PyData)
  | [] => some []
  | d :: ds => (toP0 d).bind fun x => (toPs ds).map fun xs => x :: xs
end
/-- the items of a list or tuple -/
def items (S : Sto) : D → Option (List D)
  | .tup xs => some xs
  | .frl xs => some xs
  | .ref n => match S[n]? with
    | some (.lst xs) => some xs
    | _ => none
  | _ => none
/-- as == reads it -/
def toP (S : Sto) : D → Option PyData
  | .ref n => match S[n]? with
    | some (.lst xs) => (toPs xs).map .list
    | _ => none
  | d => toP0 d
/-- a == b -/
def eqD (S : Sto) (a b : D) : Option Bool := (toP S a).bind fun x => (toP S b).bind fun y => if min x.depth y.depth ≤ 100 then some (PyData.eqv x y) else none
/-- is x in the items -/
def inD (x : D) (xs : List D) : Option Bool := (toP0 x).bind fun p => (toPs xs).bind fun ps => if min (1 + PyData.depthAll ps) p.depth ≤ 100 then some (ps.any fun z => PyData.eqv z p) else none
def mulOk (i j : Int) : Bool := decide ((-(2 ^ 64) < i ∧ i < 2 ^ 64) ∨ (-(2 ^ 64) < j ∧ j < 2 ^ 64)) || decide (i.natAbs.log2 + j.natAbs.log2 < 1000000)
def addD : D → D → Sto → Res D
  | .int i, .int j, S => .ok (.int (i + j)) S
  | .str a, .str b, S => if a.length + b.length ≤ sizeLine then .ok (.str (a ++ b)) S else .bad
  | .tup xs, .tup ys, S => if xs.length + ys.length ≤ sizeLine then .ok (.tup (xs ++ ys)) S else .bad
  | .ref m, .ref n, S => match S[m]?, S[n]? with
    | some (.lst xs), some (.lst ys) => if xs.length + ys.length ≤ sizeLine then .ok (.ref S.length) (S ++ [.lst (xs ++ ys)]) else .bad
    | _, _ => .bad
  | _, _, _ => .bad
def binD (op : Operator) (x y : D) (S : Sto) : Res D := match op with
  | .Add => addD x y S
  | .Sub => match x, y with
    | .int i, .int j => .ok (.int (i - j)) S
    | _, _ => .bad
  | .Mult => match x, y with
    | .int i, .int j => if mulOk i j = true then .ok (.int (i * j)) S else .bad
    | _, _ => .bad
  | .FloorDiv => match x, y with
    | .int i, .int j => if 0 < j ∧ j.natAbs.log2 < 9000 then .ok (.int (i / j)) S else .bad
    | _, _ => .bad
  | .Mod => match x, y with
    | .int i, .int j => if 0 < j then .ok (.int (i % j)) S else .bad
    | _, _ => .bad
  | .Pow => match x, y with
    | .int i, .int j => if 0 ≤ j ∧ j ≤ 1000000 ∧ i.natAbs < 2 ^ 64 then .ok (.int (i ^ j.toNat)) S else .bad
    | _, _ => .bad
  | _ => .bad
def negD (x : D) (S : Sto) : Res D := match x with
  | .int i => .ok (.int (-i)) S
  | _ => .bad
/-- one sign or text within a text -/
def inStr (a b : Str) : Bool := !(Builtin.Str.occurrences b a 0 b.length 1).isEmpty
def inB (S : Sto) (x y : D) : Option Bool := match x, y with
  | .str a, .str b => some (inStr a b)
  | x, y => (items S y).bind fun ys => inD x ys
def isB : D → D → Option Bool
  | x, .non => some (decide (x = .non))
  | .bl a, .bl b => some (decide (a = b))
  | _, _ => none
def ordB (op : CmpOp) : D → D → Option Bool
  | .int i, .int j => match op with
    | .Lt => some (decide (i < j))
    | .LtE => some (decide (i ≤ j))
    | .Gt => some (decide (j < i))
    | .GtE => some (decide (j ≤ i))
    | _ => none
  | _, _ => none
def cmpB (op : CmpOp) (S : Sto) (x y : D) : Option Bool := match op with
  | .Eq => eqD S x y
  | .NotEq => (eqD S x y).map not
  | .Is => isB x y
  | .IsNot => (isB x y).map not
  | .In => inB S x y
  | .NotIn => (inB S x y).map not
  | op => ordB op x y
/-- truth -/
def truB (S : Sto) : D → Option Bool
  | .non => some false
  | .bl b => some b
  | .int i => some (i != 0)
  | .str x => if x.length ≤ sizeLine then some ((x.length : Int) != 0) else none
  | .ty _ => none
  | d => (items S d).map fun xs => !xs.isEmpty
/-- the place that an index means -/
def idxD (S : Sto) (x y : D) : Option D := match x, y with
  | .str z, .int i => if z.length ≤ sizeLine then (atI z.cps.toList i).map fun c => .str ⟨#[c]⟩ else none
  | x, .int i => (items S x).bind fun xs => atI xs i
  | _, _ => none
def cutD (xs : List D) (lo hi : Option Int) : List D := (xs.drop (HT.sIx xs.length 0 lo)).take (HT.sIx xs.length xs.length hi - HT.sIx xs.length 0 lo)
def slcD (x : D) (lo hi : Option Int) (S : Sto) : Res D := match x with
  | .str z => if z.length ≤ sizeLine then .ok (.str (cutS z lo hi)) S else .bad
  | .tup xs => .ok (.tup (cutD xs lo hi)) S
  | .frl xs => .ok (.ref S.length) (S ++ [.lst (cutD xs lo hi)])
  | .ref n => match S[n]? with
    | some (.lst xs) => .ok (.ref S.length) (S ++ [.lst (cutD xs lo hi)])
    | _ => .bad
  | _ => .bad
/-- the name of a value's type -/
def tyD (S : Sto) : D → Option String
  | .non => some "NoneType" | .bl _ => some "bool" | .int _ => some "int" | .str _ => some "str" | .tup _ => some "tuple" | .frl _ => some "list"
  | .ref n => match S[n]? with
    | some (.lst _) => some "list"
    | none => none
  | .ty _ => none
def isiTab : List (String × String × Bool) := ["NoneType", "bool", "int", "str", "tuple", "list", "dict"].flatMap fun t => ["bool", "int", "str", "tuple", "list", "dict"].map fun T => (t, T, t == T || (t == "bool" && T == "int"))
def isiB (t T : String) : Option Bool := (isiTab.find? fun r => r.1 == t && r.2.1 == T).map (·.2.2)
def lenD (xs : List D) (S : Sto) : Res D := match xs with
  | [.str z] => if z.length ≤ sizeLine then .ok (.int z.length) S else .bad
  | [x] => Res.of ((items S x).map fun ys => .int ys.length) S
  | _ => .bad
def absD (xs : List D) (S : Sto) : Res D := match xs with
  | [.int i] => .ok (.int (if i < 0 then -i else i)) S
  | _ => .bad
def intD (xs : List D) (S : Sto) : Res D := match xs with
  | [.int i] => .ok (.int i) S
  | [.bl k] => .ok (.int (if k then 1 else 0)) S
  | [.str a] => if a.length ≤ 640 then Res.of ((PySem.intText? a).map .int) S else .bad
  | _ => .bad
def strD (xs : List D) (S : Sto) : Res D := match xs with
  | [.int i] => if i.natAbs.log2 < 1920 then .ok (.str (toString i)) S else .bad
  | _ => .bad
def isiD (xs : List D) (S : Sto) : Res D := match xs with
  | [x, .ty T] => Res.of ((tyD S x).bind fun t => (isiB t T).map .bl) S
  | _ => .bad
def tupleD (xs : List D) (S : Sto) : Res D := match xs with
  | [x] => Res.of ((items S x).map .tup) S
  | _ => .bad
def listD (xs : List D) (S : Sto) : Res D := match xs with
  | [x] => match items S x with
    | some ys => .ok (.ref S.length) (S ++ [.lst ys])
    | none => .bad
  | _ => .bad
def bltD : B → List D → Sto → Res D
  | .len => lenD | .abs => absD | .int => intD | .str => strD | .isi => isiD | .tuple => tupleD | .list => listD
def flatD : D → Bool
  | .non => true | .bl _ => true | .int _ => true | .str _ => true
  | _ => false
/-- y == x of flat ones -/
def eqF : D → D → Bool
  | .non, .non => true
  | .bl a, .bl b => a == b
  | .bl a, .int b => (if a then 1 else 0) == b
  | .int a, .bl b => a == (if b then 1 else 0)
  | .int a, .int b => a == b
  | .str a, .str b => a == b
  | _, _ => false
def appendD (o : D) (xs : List D) (S : Sto) : Res D := match o, xs with
  | .ref n, [x] => match S[n]? with
    | some (.lst ys) => if ys.length < sizeLine then .ok .non (S.set n (.lst (ys ++ [x]))) else .bad
    | _ => .bad
  | _, _ => .bad
def partitionD (o : D) (xs : List D) (S : Sto) : Res D := match o, xs with
  | .str a, [.str b] => if (b.length == 0) = false ∧ a.length ≤ sizeLine then .ok (.tup [.str (Txt.partition a b).1, .str (Txt.partition a b).2.1, .str (Txt.partition a b).2.2]) S else .bad
  | _, _ => .bad
def countD (o : D) (xs : List D) (S : Sto) : Res D := match o, xs with
  | .ref n, [x] => match S[n]? with
    | some (.lst ys) => if flatD x = true ∧ ys.all flatD = true then .ok (.int (ys.countP fun y => eqF y x)) S else .bad
    | _ => .bad
  | _, _ => .bad
def mthD : Mt → D → List D → Sto → Res D
  | .append => appendD | .partition => partitionD | .countB => countD

/-- what the receiver must be for a method to go on -/
def mtB (m : Mt) (x : D) (S : Sto) : Bool := match m, x with
  | .partition, .str _ => true
  | .append, .ref n => match S[n]? with
    | some (.lst _) => true
    | _ => false
  | .countB, .ref n => match S[n]? with
    | some (.lst _) => true
    | _ => false
  | _, _ => false

/-! ### loops -/
/-- the list that is walked stands as it stood -/
abbrev Gd := Option (Nat × List D)
def Gd.ok (g : Gd) (S : Sto) : Bool := match g with
  | none => true
  | some (n, xs) => decide (S[n]? = some (.lst xs))
def compL (g : Gd) (step : D → Sto → Res (Option D)) : List D → Sto → Res (List D)
  | [], S => if g.ok S = true then .ok [] S else .bad
  | x :: xs, S => if g.ok S = true then (step x S).bind fun o S1 => (compL g step xs S1).bind fun ys S2 => .ok (o.toList ++ ys) S2 else .bad
def allL (g : Gd) (step : D → Sto → Res Bool) : List D → Sto → Res Bool
  | [], S => if g.ok S = true then .ok true S else .bad
  | x :: xs, S => if g.ok S = true then (step x S).bind fun b S1 => if b = true then allL g step xs S1 else .ok false S1 else .bad
/-- a text's signs -/
def signsD (z : Str) : List D := z.cps.toList.map fun c => .str ⟨#[c]⟩
/-- what a block's own names are ahead of a turn -/
def wipeD (ρ : Env) : List Nat → Env
  | [] => ρ
  | v :: vs => (wipeD ρ vs).set v none
/-- an exception can't leave a block -/
def Res.hard {α : Type} : Res α → Res α
  | .exc _ _ => .bad
  | r => r

/-! ### expressions -/
section
variable (T : Nat → List D → Sto → Res D)
mutual
def evE : E → Env → Sto → Res D
  | .var i, ρ, S => Res.of (ρ[i]?.join) S
  | .con c, _, S => .ok c.d S
  | .tyc n, _, S => .ok (.ty n) S
  | .glo _ d, _, S => .ok d S
  | .bin op a b, ρ, S => (evE a ρ S).bind fun x S1 => (evE b ρ S1).bind fun y S2 => binD op x y S2
  | .neg a, ρ, S => (evE a ρ S).bind fun x S1 => negD x S1
  | .not a, ρ, S => (evE a ρ S).bind fun x S1 => Res.of ((truB S1 x).map fun k => .bl (!k)) S1
  | .cmp op a b, ρ, S => (evE a ρ S).bind fun x S1 => (evE b ρ S1).bind fun y S2 => Res.of ((cmpB op S2 x y).map .bl) S2
  | .cmp2 op op' a b c, ρ, S => (evE a ρ S).bind fun x S1 => (evE b ρ S1).bind fun y S2 => (Res.of (cmpB op S2 x y) S2).bind fun k S3 =>
      if k = true then (evE c ρ S3).bind fun z S4 => Res.of ((cmpB op' S4 y z).map .bl) S4 else .ok (.bl false) S3
  | .and a b, ρ, S => (evE a ρ S).bind fun x S1 => (Res.of (truB S1 x) S1).bind fun k S2 => if k = true then evE b ρ S2 else .ok x S2
  | .or a b, ρ, S => (evE a ρ S).bind fun x S1 => (Res.of (truB S1 x) S1).bind fun k S2 => if k = true then .ok x S2 else evE b ρ S2
  | .one a, ρ, S => evE a ρ S
  | .ite c a b, ρ, S => (evT c ρ S).bind fun k S1 => if k = true then evE a ρ S1 else evE b ρ S1
  | .tup es, ρ, S => (evA es ρ S).bind fun xs S1 => if xs.length ≤ sizeLine then .ok (.tup xs) S1 else .bad
  | .lst es, ρ, S => (evA es ρ S).bind fun xs S1 => if xs.length ≤ sizeLine then .ok (.ref S1.length) (S1 ++ [.lst xs]) else .bad
  | .idx a b, ρ, S => (evE a ρ S).bind fun x S1 => (evE b ρ S1).bind fun y S2 => Res.of (idxD S2 x y) S2
  | .slc a lo hi, ρ, S => (evE a ρ S).bind fun x S1 => (evO lo ρ S1).bind fun l S2 => (evO hi ρ S2).bind fun h S3 => slcD x l h S3
  | .call fn es, ρ, S => (evA es ρ S).bind fun xs S1 => T fn xs S1
  | .blt b es, ρ, S => (evA es ρ S).bind fun xs S1 => bltD b xs S1
  | .mth m o es, ρ, S => (evE o ρ S).bind fun x S1 => if mtB m x S1 = true then (evA es ρ S1).bind fun xs S2 => mthD m x xs S2 else .bad
  | .lc own p it c e, ρ, S => (evI it ρ S).bind fun w S1 =>
      (compL w.2 (fun d S2 => Res.hard ((Res.of (bindP p [d] (wipeD ρ own)) S2).bind fun ρ' S3 => (evC c ρ' S3).bind fun k S4 => if k = true then (evE e ρ' S4).bind fun y S5 => .ok (some y) S5 else .ok none S4)) w.1 S1).bind fun ys S2 =>
      if ys.length ≤ sizeLine then .ok (.ref S2.length) (S2 ++ [.lst ys]) else .bad
  | .allG own p it e, ρ, S => (evI it ρ S).bind fun w S1 =>
      (allL w.2 (fun d S2 => Res.hard ((Res.of (bindP p [d] (wipeD ρ own)) S2).bind fun ρ' S3 => (evE e ρ' S3).bind fun y S4 => match y with | .bl b => .ok b S4 | _ => .bad)) w.1 S1).bind fun k S2 => .ok (.bl k) S2
  | _, _, _ => .bad
/-- a test -/
def evT : E → Env → Sto → Res Bool
  | .not a, ρ, S => (evT a ρ S).bind fun k S1 => .ok (!k) S1
  | .and a b, ρ, S => (evT a ρ S).bind fun k S1 => if k = true then evT b ρ S1 else .ok false S1
  | .or a b, ρ, S => (evT a ρ S).bind fun k S1 => if k = true then .ok true S1 else evT b ρ S1
  | .one a, ρ, S => evT a ρ S
  | .cmp op a b, ρ, S => (evE a ρ S).bind fun x S1 => (evE b ρ S1).bind fun y S2 => Res.of (cmpB op S2 x y) S2
  | .cmp2 op op' a b c, ρ, S => (evE a ρ S).bind fun x S1 => (evE b ρ S1).bind fun y S2 => (Res.of (cmpB op S2 x y) S2).bind fun k S3 =>
      if k = true then (evE c ρ S3).bind fun z S4 => Res.of (cmpB op' S4 y z) S4 else .ok false S3
  | .var i, ρ, S => (Res.of (ρ[i]?.join) S).bind fun x S1 => Res.of (truB S1 x) S1
  | .con c, _, S => (Res.ok c.d S).bind fun x S1 => Res.of (truB S1 x) S1
  | .idx a b, ρ, S => ((evE a ρ S).bind fun x S1 => (evE b ρ S1).bind fun y S2 => Res.of (idxD S2 x y) S2).bind fun z S3 => Res.of (truB S3 z) S3
  | .call fn es, ρ, S => ((evA es ρ S).bind fun xs S1 => T fn xs S1).bind fun x S2 => Res.of (truB S2 x) S2
  | .blt b es, ρ, S => ((evA es ρ S).bind fun xs S1 => bltD b xs S1).bind fun x S2 => Res.of (truB S2 x) S2
  | .mth m o es, ρ, S => ((evE o ρ S).bind fun x S1 => if mtB m x S1 = true then (evA es ρ S1).bind fun xs S2 => mthD m x xs S2 else .bad).bind fun x S3 => Res.of (truB S3 x) S3
  | .allG own p it e, ρ, S => ((evI it ρ S).bind fun w S1 =>
      (allL w.2 (fun d S2 => Res.hard ((Res.of (bindP p [d] (wipeD ρ own)) S2).bind fun ρ' S3 => (evE e ρ' S3).bind fun y S4 => match y with | .bl b => .ok b S4 | _ => .bad)) w.1 S1).bind fun k S2 => .ok (D.bl k) S2).bind fun x S3 => Res.of (truB S3 x) S3
  | _, _, _ => .bad
/-- a comprehension's test: miss is none -/
def evC : E → Env → Sto → Res Bool
  | .miss, _, S => .ok true S
  | .one a, ρ, S => evT a ρ S
  | _, _, _ => .bad
/-- arguments -/
def evA : E → Env → Sto → Res (List D)
  | .nil, _, S => .ok [] S
  | .cons e es, ρ, S => (evE e ρ S).bind fun x S1 => (evA es ρ S1).bind fun xs S2 => .ok (x :: xs) S2
  | _, _, _ => .bad
/-- a part of a slice -/
def evO : E → Env → Sto → Res (Option Int)
  | .miss, _, S => .ok none S
  | .one a, ρ, S => (evE a ρ S).bind fun x S1 => match x with
      | .int i => .ok (some i) S1
      | _ => .bad
  | _, _, _ => .bad
/-- what is walked: its items, and which list has to stand -/
def evI : E → Env → Sto → Res (List D × Gd)
  | .range1 a, ρ, S => (evE a ρ S).bind fun x S1 => match x with
      | .int j => if -1000000 ≤ j ∧ j ≤ 1000000 then .ok ((List.range j.toNat).map fun (k : Nat) => D.int k, none) S1 else .bad
      | _ => .bad
  | .range2 a b, ρ, S => (evE a ρ S).bind fun x S1 => (evE b ρ S1).bind fun y S2 => match x, y with
      | .int i, .int j => if -1000000 ≤ i ∧ i ≤ 1000000 ∧ -1000000 ≤ j ∧ j ≤ 1000000 then .ok ((List.range (j - i).toNat).map fun (k : Nat) => D.int (i + k), none) S2 else .bad
      | _, _ => .bad
  | .seqI a, ρ, S => (evE a ρ S).bind fun x S1 => match x with
      | .tup xs => .ok (xs, none) S1
      | .frl xs => .ok (xs, none) S1
      | .str z => .ok (signsD z, none) S1
      | .ref n => match S1[n]? with
        | some (.lst xs) => .ok (xs, some (n, xs)) S1
        | _ => .bad
      | _ => .bad
  | _, _, _ => .bad
end
end

/-! ### statements -/
/-- what is stored to: a name, a tuple of them, a place of a list -/
inductive G where
  | pt (p : P) | sub (o i : E)
  deriving Inhabited
inductive St where
  | skip | seq (a b : St) | asg (g : G) (e : E) | setlc (i : Nat) (e : E) | par (i j : Nat) (a b : E) | expr (e : E) | ret (e : E) | retN
  | iff (c : E) (a b : St) | whil (n : Nat) (c : E) (b : St) | forr (p : P) (it : E) (b : St) | brk | cnt
  deriving Inhabited
inductive SR where
  | next (ρ : Env) (S : Sto) | ret (d : D) (S : Sto) | brk (ρ : Env) (S : Sto) | cnt (ρ : Env) (S : Sto) | exc (x : D) (S : Sto) | bad
def Res.sr {α : Type} (r : Res α) (k : α → Sto → SR) : SR := match r with
  | .ok a S => k a S
  | .exc x S => .exc x S
  | .bad => .bad
@[simp] theorem Res.sr_ok {α : Type} (a : α) (S : Sto) (k : α → Sto → SR) : (Res.ok a S).sr k = k a S := rfl
@[simp] theorem Res.sr_exc {α : Type} (x : D) (S : Sto) (k : α → Sto → SR) : (Res.exc x S).sr k = .exc x S := rfl
@[simp] theorem Res.sr_bad {α : Type} (k : α → Sto → SR) : (Res.bad).sr k = .bad := rfl
def SR.then (r : SR) (k : Env → Sto → SR) : SR := match r with
  | .next ρ S => k ρ S
  | r => r
@[simp] theorem SR.then_next (ρ : Env) (S : Sto) (k : Env → Sto → SR) : (SR.next ρ S).then k = k ρ S := rfl
@[simp] theorem SR.then_ret (d : D) (S : Sto) (k : Env → Sto → SR) : (SR.ret d S).then k = .ret d S := rfl
@[simp] theorem SR.then_brk (ρ : Env) (S : Sto) (k : Env → Sto → SR) : (SR.brk ρ S).then k = .brk ρ S := rfl
@[simp] theorem SR.then_cnt (ρ : Env) (S : Sto) (k : Env → Sto → SR) : (SR.cnt ρ S).then k = .cnt ρ S := rfl
@[simp] theorem SR.then_exc (x : D) (S : Sto) (k : Env → Sto → SR) : (SR.exc x S).then k = .exc x S := rfl
@[simp] theorem SR.then_bad (k : Env → Sto → SR) : (SR.bad).then k = .bad := rfl
/-- behind a turn: on with the loop, or out of it -/
def SR.turn (r : SR) (k : Env → Sto → SR) : SR := match r with
  | .next ρ S => k ρ S
  | .cnt ρ S => k ρ S
  | .brk ρ S => .next ρ S
  | r => r
@[simp] theorem SR.turn_next (ρ : Env) (S : Sto) (k : Env → Sto → SR) : (SR.next ρ S).turn k = k ρ S := rfl
@[simp] theorem SR.turn_cnt (ρ : Env) (S : Sto) (k : Env → Sto → SR) : (SR.cnt ρ S).turn k = k ρ S := rfl
@[simp] theorem SR.turn_brk (ρ : Env) (S : Sto) (k : Env → Sto → SR) : (SR.brk ρ S).turn k = .next ρ S := rfl
@[simp] theorem SR.turn_ret (d : D) (S : Sto) (k : Env → Sto → SR) : (SR.ret d S).turn k = .ret d S := rfl
@[simp] theorem SR.turn_exc (x : D) (S : Sto) (k : Env → Sto → SR) : (SR.exc x S).turn k = .exc x S := rfl
@[simp] theorem SR.turn_bad (k : Env → Sto → SR) : (SR.bad).turn k = .bad := rfl
def forL (g : Gd) (step : D → Env → Sto → SR) : List D → Env → Sto → SR
  | [], ρ, S => if g.ok S = true then .next ρ S else .bad
  | x :: xs, ρ, S => if g.ok S = true then (step x ρ S).turn fun ρ' S' => forL g step xs ρ' S' else .bad
def whiL (c : Env → Sto → Res Bool) (b : Env → Sto → SR) : Nat → Env → Sto → SR
  | 0, _, _ => .bad
  | n + 1, ρ, S => (c ρ S).sr fun k S1 => if k = true then (b ρ S1).turn fun ρ' S' => whiL c b n ρ' S' else .next ρ S1
/-- xs[i] = v -/
def setD (o i v : D) (S : Sto) : Res Unit := match o, i with
  | .ref n, .int k => match S[n]? with
    | some (.lst xs) => match ixN xs.length k with
      | some j => .ok () (S.set n (.lst (xs.set j v)))
      | none => .bad
    | _ => .bad
  | _, _ => .bad
section
variable (T : Nat → List D → Sto → Res D)
def evG (g : G) (d : D) (ρ : Env) (S : Sto) : SR := match g with
  | .pt p => (Res.of (bindP p [d] ρ) S).sr fun ρ' S' => .next ρ' S'
  | .sub o i => (evE T o ρ S).sr fun x S1 => (evE T i ρ S1).sr fun y S2 => (setD x y d S2).sr fun _ S3 => .next ρ S3
def evS : St → Env → Sto → SR
  | .skip, ρ, S => .next ρ S
  | .seq a b, ρ, S => (evS a ρ S).then fun ρ' S' => evS b ρ' S'
  | .asg g e, ρ, S => (evE T e ρ S).sr fun x S1 => evG T g x ρ S1
  | .setlc i e, ρ, S => (evE T e ρ S).sr fun x S1 => .next (ρ.set i (some x)) S1
  | .par i j a b, ρ, S => (evE T a ρ S).sr fun x S1 => (evE T b ρ S1).sr fun y S2 => .next ((ρ.set i (some x)).set j (some y)) S2
  | .expr e, ρ, S => (evE T e ρ S).sr fun _ S1 => .next ρ S1
  | .ret e, ρ, S => (evE T e ρ S).sr fun x S1 => .ret x S1
  | .retN, _, S => .ret .non S
  | .iff c a b, ρ, S => (evT T c ρ S).sr fun k S1 => if k = true then evS a ρ S1 else evS b ρ S1
  | .whil n c b, ρ, S => whiL (fun ρ S => evT T c ρ S) (fun ρ S => evS b ρ S) n ρ S
  | .forr p it b, ρ, S => (evI T it ρ S).sr fun w S1 => forL w.2 (fun x ρ S => (Res.of (bindP p [x] ρ) S).sr fun ρ' S' => evS b ρ' S') w.1 ρ S1
  | .brk, ρ, S => .brk ρ S
  | .cnt, ρ, S => .cnt ρ S
end
/-- a def: its parameters, its slots, its body -/
structure Fn where
  np : Nat
  ns : Nat
  body : St
def SR.res (r : SR) : Res D := match r with
  | .next _ S => .ok .non S
  | .ret d S => .ok d S
  | .exc x S => .exc x S
  | _ => .bad
def startD (ns : Nat) (ds : List D) : Env := ds.map some ++ List.replicate (ns - ds.length) none
def evF (F : Nat → Option Fn) : Nat → Nat → List D → Sto → Res D
  | 0, _, _, _ => .bad
  | k + 1, i, ds, S => match F i with
    | none => .bad
    | some f => if ds.length = f.np then (evS (evF F k) f.body (startD f.ns ds) S).res else .bad
end Rv

set_option Elab.async false
set_option linter.all false
set_option maxRecDepth 100000
set_option maxHeartbeats 4000000
/-! RvB: data over the abstract heap. -/
namespace Rv
open PySem PySem.Spec PyProof.Rows L2
example : evE (fun _ _ _ => .bad) (.bin .Add (.con (.int 3)) (.var 0)) [some (.int 4)] [] = .ok (.int 7) [] := by rfl

/-! ### what stays -/
/-- a list that nobody writes: frozen, or of the written part -/
def SqF (K : PySem.W.Frag) (H : Hp) (a : Addr) (xs : List V) : Prop :=
  (∃ o, H a = some (.frz o (.lst xs))) ∨
    ∃ (o : Obj) (its : Array Value) (n : Nat), K.lookup a = some o ∧ o.cls = .type "list" ∧ o.dict = none ∧ o.data = .seq its n ∧ its.size ≤ sizeLine ∧ Vals xs its.toList
theorem SqF.seq {K : PySem.W.Frag} {H : Hp} {a : Addr} {xs : List V} (h : SqF K H a xs) : SqL K H a xs := by
  rcases h with ⟨o, h⟩ | h
  · exact .inl (.inr ⟨o, h⟩)
  · exact .inr h
mutual
/-- the value v is the data d -/
inductive Is (K : PySem.W.Frag) (f : List Addr) (H : Hp) : V → D → Prop where
  | non : Is K f H .non .non
  | bl (b : Bool) : Is K f H (.bl b) (.bl b)
  | int (i : Int) : Is K f H (.int i) (.int i)
  | str (x : Str) : Is K f H (.str x) (.str x)
  | ty (n : String) : Is K f H (.ty n) (.ty n)
  | tup {a : Addr} {xs : List V} {ds : List D} : SqT K H a xs → IsL K f H xs ds → Is K f H (.ref a) (.tup ds)
  | ref {a : Addr} {n : Nat} : f[n]? = some a → Is K f H (.ref a) (.ref n)
  | frl {a : Addr} {xs : List V} {ds : List D} : SqF K H a xs → IsL K f H xs ds → Is K f H (.ref a) (.frl ds)
inductive IsL (K : PySem.W.Frag) (f : List Addr) (H : Hp) : List V → List D → Prop where
  | nil : IsL K f H [] []
  | cons {v : V} {vs : List V} {d : D} {ds : List D} : Is K f H v d → IsL K f H vs ds → IsL K f H (v :: vs) (d :: ds)
end
/-- a cell -/
def OIs (K : PySem.W.Frag) (f : List Addr) (H : Hp) (a : Addr) : O → Prop
  | .lst ds => ∃ vs, H a = some (.lst vs) ∧ IsL K f H vs ds
def TabOk (H : Hp) (P : Addr) : Prop := ∃ ps : Array Value, H P = some (.tbl ps) ∧ TriplesOk ps.toList
/-- the store is held -/
structure Rl (K : PySem.W.Frag) (tabs f : List Addr) (S : Sto) (H : Hp) : Prop where
  len : f.length = S.length
  nd : f.Nodup
  cell : ∀ (n : Nat) (o : O) (a : Addr), S[n]? = some o → f[n]? = some a → OIs K f H a o
  tab : ∀ P ∈ tabs, TabOk H P
/-- what a step may do to the heap: new cells, new objects, cells changed, tables grown -/
structure Ext (tabs f : List Addr) (H : Hp) (f' : List Addr) (H' : Hp) : Prop where
  pre : ∃ g, f' = f ++ g ∧ ∀ a ∈ g, H a = none
  keep : ∀ a o, H a = some o → a ∉ f → a ∉ tabs → H' a = some o
  stay : ∀ a, H a ≠ none → H' a ≠ none
section
variable {K : PySem.W.Frag} {tabs f f' f'' g : List Addr} {S S' : Sto} {H H' H'' : Hp} {a p : Addr} {v : V} {d : D} {vs xs ys : List V} {ds : List D}

theorem Ext.refl : Ext tabs f H f H := ⟨⟨[], by simp, by simp⟩, fun _ _ h _ _ => h, fun _ h => h⟩
theorem Ext.trans (x : Ext tabs f H f' H') (y : Ext tabs f' H' f'' H'') : Ext tabs f H f'' H'' := by
  obtain ⟨g, rfl, hg⟩ := x.pre
  obtain ⟨g', rfl, hg'⟩ := y.pre
  refine ⟨⟨g ++ g', by simp, fun a ha => ?_⟩, fun a o h h1 h2 => ?_, fun a h => y.stay a (x.stay a h)⟩
  · rcases List.mem_append.mp ha with ha | ha
    · exact hg a ha
    · cases q : H a with
      | none => rfl
      | some o => exact absurd (hg' a ha) (x.stay a (by rw [q]; simp))
  · refine y.keep a o (x.keep a o h h1 h2) (fun z => ?_) h2
    rcases List.mem_append.mp z with z | z
    · exact h1 z
    · rw [hg a z] at h; cases h
theorem Ext.get (x : Ext tabs f H f' H') {n : Nat} (h : f[n]? = some a) : f'[n]? = some a := by
  obtain ⟨g, rfl, _⟩ := x.pre
  rw [List.getElem?_append_left (List.getElem?_eq_some_iff.mp h).1]
  exact h
theorem Rl.cellAt (R : Rl K tabs f S H) (ha : a ∈ f) : ∃ (n : Nat) (o : O), f[n]? = some a ∧ S[n]? = some o ∧ OIs K f H a o := by
  obtain ⟨n, hn, e⟩ := List.getElem_of_mem ha
  have hn' : n < S.length := by rw [← R.len]; exact hn
  have e1 : f[n]? = some a := by rw [List.getElem?_eq_getElem hn, e]
  exact ⟨n, S[n], e1, List.getElem?_eq_getElem hn', R.cell n _ a (List.getElem?_eq_getElem hn') e1⟩
theorem OIs.some {o : O} (h : OIs K f H a o) : ∃ vs, H a = some (.lst vs) := by
  cases o with
  | lst ds => obtain ⟨vs, h, _⟩ := h; exact ⟨vs, h⟩
theorem Rl.ntup (R : Rl K tabs f S H) (h : H a = some (.tup xs)) : a ∉ f ∧ a ∉ tabs := by
  refine ⟨fun z => ?_, fun z => ?_⟩
  · obtain ⟨n, o, _, _, q⟩ := R.cellAt z
    obtain ⟨vs, q⟩ := q.some
    rw [h] at q; cases q
  · obtain ⟨ps, q, _⟩ := R.tab a z
    rw [h] at q; cases q
theorem Rl.nfrz {ob : Obj} {u : HO} (R : Rl K tabs f S H) (h : H a = some (.frz ob u)) : a ∉ f ∧ a ∉ tabs := by
  refine ⟨fun z => ?_, fun z => ?_⟩
  · obtain ⟨n, o, _, _, q⟩ := R.cellAt z
    obtain ⟨vs, q⟩ := q.some
    rw [h] at q; cases q
  · obtain ⟨ps, q, _⟩ := R.tab a z
    rw [h] at q; cases q
theorem SqT.ext (R : Rl K tabs f S H) (x : Ext tabs f H f' H') (h : SqT K H a xs) : SqT K H' a xs := by
  rcases h with (h | ⟨o, h⟩) | h
  · exact .inl (.inl (x.keep a _ h (R.ntup h).1 (R.ntup h).2))
  · exact .inl (.inr ⟨o, x.keep a _ h (R.nfrz h).1 (R.nfrz h).2⟩)
  · exact .inr h
theorem SqF.ext (R : Rl K tabs f S H) (x : Ext tabs f H f' H') (h : SqF K H a xs) : SqF K H' a xs := by
  rcases h with ⟨o, h⟩ | h
  · exact .inl ⟨o, x.keep a _ h (R.nfrz h).1 (R.nfrz h).2⟩
  · exact .inr h
mutual
theorem Is.ext (R : Rl K tabs f S H) (x : Ext tabs f H f' H') : ∀ {v : V} {d : D}, Is K f H v d → Is K f' H' v d
  | _, _, .non => .non
  | _, _, .bl b => .bl b
  | _, _, .int i => .int i
  | _, _, .str z => .str z
  | _, _, .ty n => .ty n
  | _, _, .tup h t => .tup (SqT.ext R x h) (IsL.ext R x t)
  | _, _, .ref h => .ref (x.get h)
  | _, _, .frl h t => .frl (SqF.ext R x h) (IsL.ext R x t)
theorem IsL.ext (R : Rl K tabs f S H) (x : Ext tabs f H f' H') : ∀ {vs : List V} {ds : List D}, IsL K f H vs ds → IsL K f' H' vs ds
  | _, _, .nil => .nil
  | _, _, .cons h t => .cons (Is.ext R x h) (IsL.ext R x t)
end
mutual
/-- more cells -/
theorem Is.more (g : List Addr) : ∀ {v : V} {d : D}, Is K f H v d → Is K (f ++ g) H v d
  | _, _, .non => .non
  | _, _, .bl b => .bl b
  | _, _, .int i => .int i
  | _, _, .str z => .str z
  | _, _, .ty n => .ty n
  | _, _, .tup h t => .tup h (IsL.more g t)
  | _, _, .ref h => .ref (by rw [List.getElem?_append_left (List.getElem?_eq_some_iff.mp h).1]; exact h)
  | _, _, .frl h t => .frl h (IsL.more g t)
theorem IsL.more (g : List Addr) : ∀ {vs : List V} {ds : List D}, IsL K f H vs ds → IsL K (f ++ g) H vs ds
  | _, _, .nil => .nil
  | _, _, .cons h t => .cons (Is.more g h) (IsL.more g t)
end
theorem IsL.length : ∀ {vs : List V} {ds : List D}, IsL K f H vs ds → vs.length = ds.length
  | _, _, .nil => rfl
  | _, _, .cons _ t => by rw [List.length_cons, List.length_cons, IsL.length t]
theorem IsL.get : ∀ {vs : List V} {ds : List D} {i : Nat} {v : V}, IsL K f H vs ds → vs[i]? = some v → ∃ d, ds[i]? = some d ∧ Is K f H v d
  | _, _, _, _, .nil, e => by simp at e
  | _, _, 0, _, .cons h _, e => by simp at e; subst e; exact ⟨_, rfl, h⟩
  | _, _, i + 1, _, .cons _ t, e => IsL.get (i := i) t (by simpa using e)
theorem IsL.getD : ∀ {vs : List V} {ds : List D} {i : Nat} {d : D}, IsL K f H vs ds → ds[i]? = some d → ∃ v, vs[i]? = some v ∧ Is K f H v d
  | _, _, _, _, .nil, e => by simp at e
  | _, _, 0, _, .cons h _, e => by simp at e; subst e; exact ⟨_, rfl, h⟩
  | _, _, i + 1, _, .cons _ t, e => IsL.getD (i := i) t (by simpa using e)
theorem IsL.append : ∀ {vs ws : List V} {ds es : List D}, IsL K f H vs ds → IsL K f H ws es → IsL K f H (vs ++ ws) (ds ++ es)
  | _, _, _, _, .nil, s => s
  | _, _, _, _, .cons h t, s => .cons h (IsL.append t s)
theorem IsL.take : ∀ {vs : List V} {ds : List D} (n : Nat), IsL K f H vs ds → IsL K f H (vs.take n) (ds.take n)
  | _, _, 0, _ => .nil
  | _, _, _ + 1, .nil => .nil
  | _, _, n + 1, .cons h t => .cons h (IsL.take n t)
theorem IsL.drop : ∀ {vs : List V} {ds : List D} (n : Nat), IsL K f H vs ds → IsL K f H (vs.drop n) (ds.drop n)
  | _, _, 0, r => r
  | _, _, _ + 1, .nil => .nil
  | _, _, n + 1, .cons _ t => IsL.drop n t
theorem IsL.set {v : V} {d : D} (h : Is K f H v d) : ∀ {vs : List V} {ds : List D} (n : Nat), IsL K f H vs ds → IsL K f H (vs.set n v) (ds.set n d)
  | _, _, _, .nil => .nil
  | _, _, 0, .cons _ t => .cons h t
  | _, _, n + 1, .cons q t => .cons q (IsL.set h n t)
theorem IsL.one (h : Is K f H v d) : IsL K f H [v] [d] := .cons h .nil

/-- an object is laid that is no cell -/
theorem Ext.lay {o : HO} (hp : H p = none) : Ext tabs f H f (upd H p o) := by
  refine ⟨⟨[], by simp, by simp⟩, fun a u h _ _ => ?_, fun a h => ?_⟩
  · rw [upd_ne (ne_of_none h hp)]; exact h
  · by_cases e : a = p
    · subst e; rw [upd_same]; simp
    · rw [upd_ne e]; exact h
theorem OIs.ext {o : O} (R : Rl K tabs f S H) (x : Ext tabs f H f' H') (h : OIs K f H a o) (e : H' a = H a) : OIs K f' H' a o := by
  cases o with
  | lst ds => obtain ⟨vs, h, t⟩ := h; exact ⟨vs, e.trans h, t.ext R x⟩
theorem OIs.ne_none {o : O} (h : OIs K f H a o) : H a ≠ none := by
  obtain ⟨vs, q⟩ := h.some
  rw [q]; simp
theorem TabOk.ne {P : Addr} (h : TabOk H P) (hp : H p = none) : P ≠ p := by
  obtain ⟨ps, q, _⟩ := h
  exact ne_of_none q hp
theorem Rl.lay {o : HO} (R : Rl K tabs f S H) (hp : H p = none) : Rl K tabs f S (upd H p o) := by
  refine ⟨R.len, R.nd, fun n u a h1 h2 => ?_, fun P hP => ?_⟩
  · have q := R.cell n u a h1 h2
    refine q.ext R (Ext.lay hp) (upd_ne fun e => ?_)
    rw [e] at q
    exact q.ne_none hp
  · have q := R.tab P hP
    obtain ⟨ps, q1, q2⟩ := id q
    exact ⟨ps, by rw [upd_ne (q.ne hp)]; exact q1, q2⟩
/-- a new list -/
theorem Ext.new {o : HO} (hp : H p = none) : Ext tabs f H (f ++ [p]) (upd H p o) := by
  refine ⟨⟨[p], rfl, by simpa using hp⟩, (Ext.lay (tabs := tabs) (f := f) hp).keep, (Ext.lay (tabs := tabs) (f := f) hp).stay⟩
theorem Rl.new (R : Rl K tabs f S H) (hp : H p = none) (h : IsL K f H xs ds) : Rl K tabs (f ++ [p]) (S ++ [.lst ds]) (upd H p (.lst xs)) := by
  have x : Ext tabs f H (f ++ [p]) (upd H p (.lst xs)) := Ext.new hp
  have npf : p ∉ f := fun z => by
    obtain ⟨n, o, _, _, q⟩ := R.cellAt z
    exact q.ne_none hp
  refine ⟨by simp [R.len], ?_, fun n u a h1 h2 => ?_, (R.lay hp).tab⟩
  · rw [List.nodup_append]
    exact ⟨R.nd, by simp, fun a ha b hb => by have : b = p := by simpa using hb
                                              subst this; exact fun e => npf (e ▸ ha)⟩
  · by_cases hn : n < S.length
    · rw [List.getElem?_append_left hn] at h1
      rw [List.getElem?_append_left (by rw [R.len]; exact hn)] at h2
      have q := R.cell n u a h1 h2
      exact q.ext R x (upd_ne fun e => npf (by rw [← e]; exact List.mem_of_getElem? h2))
    · have en : n = S.length := by
        have := (List.getElem?_eq_some_iff.mp h1).1
        rw [List.length_append, List.length_singleton] at this
        omega
      subst en
      rw [List.getElem?_append_right (Nat.le_refl _), Nat.sub_self] at h1
      rw [List.getElem?_append_right (by rw [R.len]; exact Nat.le_refl _), R.len, Nat.sub_self] at h2
      obtain rfl : O.lst ds = u := by simpa using h1
      obtain rfl : p = a := by simpa using h2
      exact ⟨xs, upd_same, h.ext R x⟩
theorem Is.new (R : Rl K tabs f S H) : Is K (f ++ [p]) H' (.ref p) (.ref S.length) := .ref (by rw [List.getElem?_append_right (by rw [R.len]; exact Nat.le_refl _), R.len, Nat.sub_self]; rfl)
/-- a cell is changed -/
theorem Ext.put {n : Nat} {o : HO} (ha : f[n]? = some a) (hn : H a ≠ none) : Ext tabs f H f (upd H a o) := by
  refine ⟨⟨[], by simp, by simp⟩, fun b u h h1 _ => ?_, fun b h => ?_⟩
  · rw [upd_ne (show b ≠ a from fun e => h1 (by rw [e]; exact List.mem_of_getElem? ha))]; exact h
  · by_cases e : b = a
    · subst e; rw [upd_same]; simp
    · rw [upd_ne e]; exact h
theorem Rl.put {n : Nat} (R : Rl K tabs f S H) (ha : f[n]? = some a) (h : IsL K f H xs ds) : Rl K tabs f (S.set n (.lst ds)) (upd H a (.lst xs)) ∧ Ext tabs f H f (upd H a (.lst xs)) := by
  obtain ⟨m, o, e1, e2, q⟩ := R.cellAt (List.mem_of_getElem? ha)
  have x : Ext tabs f H f (upd H a (.lst xs)) := Ext.put ha q.ne_none
  refine ⟨⟨by simp [R.len], R.nd, fun k u b h1 h2 => ?_, fun P hP => ?_⟩, x⟩
  · by_cases ek : k = n
    · subst ek
      rw [ha] at h2; cases h2
      have hk : k < S.length := by rw [← R.len]; exact (List.getElem?_eq_some_iff.mp ha).1
      rw [List.getElem?_set_self hk] at h1
      cases h1
      exact ⟨xs, upd_same, h.ext R x⟩
    · rw [List.getElem?_set_ne (Ne.symm ek)] at h1
      have q' := R.cell k u b h1 h2
      refine q'.ext R x (upd_ne fun e => ek ?_)
      subst e
      obtain ⟨hk, ek1⟩ := List.getElem?_eq_some_iff.mp h2
      obtain ⟨hn, en1⟩ := List.getElem?_eq_some_iff.mp ha
      exact (List.getElem_inj R.nd).mp (ek1.trans en1.symm)
  · obtain ⟨ps, q1, q2⟩ := R.tab P hP
    refine ⟨ps, ?_, q2⟩
    rw [upd_ne fun e => ?_]
    · exact q1
    · obtain ⟨vs, q3⟩ := q.some
      rw [e, q3] at q1; cases q1
/-- the list behind a reference -/
theorem Rl.lst {n : Nat} (R : Rl K tabs f S H) (h : S[n]? = some (.lst ds)) (ha : f[n]? = some a) : ∃ vs, H a = some (.lst vs) ∧ IsL K f H vs ds := R.cell n _ a h ha
/-- what a list or tuple holds -/
theorem items_of (R : Rl K tabs f S H) {ys : List D} (h : Is K f H v d) (e : items S d = some ys) : ∃ a vs, v = .ref a ∧ (SqL K H a vs ∨ SqT K H a vs) ∧ IsL K f H vs ys := by
  cases h with
  | tup h t => cases e; exact ⟨_, _, rfl, .inr h, t⟩
  | frl h t => cases e; exact ⟨_, _, rfl, .inl h.seq, t⟩
  | @ref a n h =>
    simp only [items] at e
    cases q : S[n]? with
    | none => rw [q] at e; cases e
    | some o =>
      rw [q] at e
      cases o with
      | lst zs =>
        cases e
        obtain ⟨vs, h1, h2⟩ := R.lst q h
        exact ⟨_, _, rfl, .inl (.inl (.inl h1)), h2⟩
  | _ => cases e
mutual
/-- as == reads it -/
theorem dp_of : ∀ {d : D} {v : V} {p : PyData}, Is K f H v d → toP0 d = some p → Dp K H v p
  | _, _, _, .non, e => by cases e; exact .non
  | _, _, _, .bl b, e => by cases e; exact .bl b
  | _, _, _, .int i, e => by cases e; exact .int i
  | _, _, _, .str x, e => by cases e; exact .str x
  | _, _, _, .ty _, e => by cases e
  | _, _, _, .tup (ds := ds) h t, e => by
    rw [toP0] at e
    obtain ⟨ps, e1, rfl⟩ := Option.map_eq_some_iff.mp e
    exact .tup h (dps_of t e1)
  | _, _, _, .ref _, e => by cases e
  | _, _, _, .frl h t, e => by
    rw [toP0] at e
    obtain ⟨ps, e1, rfl⟩ := Option.map_eq_some_iff.mp e
    exact .lst h.seq (dps_of t e1)
theorem dps_of : ∀ {ds : List D} {vs : List V} {ps : List PyData}, IsL K f H vs ds → toPs ds = some ps → DpAll K H vs ps
  | _, _, _, .nil, e => by cases e; exact .nil
  | _, _, _, .cons h t, e => by
    rw [toPs] at e
    obtain ⟨p, e1, e2⟩ := Option.bind_eq_some_iff.mp e
    obtain ⟨ps, e3, rfl⟩ := Option.map_eq_some_iff.mp e2
    exact .cons (dp_of h e1) (dps_of t e3)
end
theorem dpS_of {p : PyData} (R : Rl K tabs f S H) (h : Is K f H v d) (e : toP S d = some p) : Dp K H v p := by
  cases d with
  | ref n =>
    cases h with
    | ref ha =>
      simp only [toP] at e
      cases q : S[n]? with
      | none => rw [q] at e; cases e
      | some o =>
        rw [q] at e
        cases o with
        | lst zs =>
          obtain ⟨ps, e1, rfl⟩ := Option.map_eq_some_iff.mp e
          obtain ⟨vs, h1, h2⟩ := R.lst q ha
          exact .lst (.inl (.inl h1)) (dps_of h2 e1)
  | _ => exact dp_of h e
mutual
theorem plain_of : ∀ {v : V} {p : PyData}, Dp K H v p → p.plain = true
  | _, _, .non => rfl
  | _, _, .bl _ => rfl
  | _, _, .int _ => rfl
  | _, _, .str _ => rfl
  | _, _, .lst _ t => by rw [PyData.plain]; exact plains_of t
  | _, _, .tup _ t => by rw [PyData.plain]; exact plains_of t
theorem plains_of : ∀ {vs : List V} {ps : List PyData}, DpAll K H vs ps → PyData.plainAll ps = true
  | _, _, .nil => rfl
  | _, _, .cons h t => by rw [PyData.plainAll, plain_of h, plains_of t]; rfl
end
end
end Rv

set_option Elab.async false
set_option linter.all false
set_option maxRecDepth 100000
set_option maxHeartbeats 4000000
/-! RvC: what the operators, subscripts, built-ins and methods do to data. -/
namespace Rv
open PySem PySem.Spec PyProof.Rows L2

abbrev XQT := D → Sto → List Addr → Hp → Prop
/-- the result r, wherever it comes to stand, is what is wanted -/
def Post {α β : Type} (K : PySem.W.Frag) (tabs : List Addr) (rel : List Addr → Hp → β → α → Prop) (f : List Addr) (H : Hp) (r : Res α) (Q : β → Hp → Prop) (XQ : XQT) : Prop := match r with
  | .ok d S' => ∀ f' H' v, Ext tabs f H f' H' → Rl K tabs f' S' H' → rel f' H' v d → Q v H'
  | .exc x S' => ∀ f' H', Ext tabs f H f' H' → Rl K tabs f' S' H' → XQ x S' f' H'
  | .bad => False
section
variable {K : PySem.W.Frag} {tabs f f' : List Addr} {H H' : Hp} {S : Sto} {XQ : XQT}
theorem Post.mono {α β : Type} {rel : List Addr → Hp → β → α → Prop} {r : Res α} {Q : β → Hp → Prop} (x : Ext tabs f H f' H') (h : Post K tabs rel f H r Q XQ) : Post K tabs rel f' H' r Q XQ := by
  cases r with
  | ok d S' => exact fun f2 H2 v y => h f2 H2 v (x.trans y)
  | exc d S' => exact fun f2 H2 y => h f2 H2 (x.trans y)
  | bad => exact h
theorem Post.bind {α β γ δ : Type} {rel : List Addr → Hp → β → α → Prop} {rel' : List Addr → Hp → δ → γ → Prop} {r : Res α} {k : α → Sto → Res γ} {Q : δ → Hp → Prop} {Q1 : β → Hp → Prop} (h : Post K tabs rel' f H (r.bind k) Q XQ)
    (hk : ∀ a S1 f1 H1 b, Ext tabs f H f1 H1 → Rl K tabs f1 S1 H1 → rel f1 H1 b a → Post K tabs rel' f1 H1 (k a S1) Q XQ → Q1 b H1) : Post K tabs rel f H r Q1 XQ := by
  cases r with
  | ok d S' => exact fun f2 H2 v y R i => hk d S' f2 H2 v y R i (Post.mono y h)
  | exc d S' => exact h
  | bad => exact h
theorem Post.ok {α β : Type} {rel : List Addr → Hp → β → α → Prop} {d : α} {b : β} {Q : β → Hp → Prop} (h : Post K tabs rel f H (.ok d S) Q XQ) (R : Rl K tabs f S H) (i : rel f H b d) : Q b H := h f H b Ext.refl R i
theorem Post.of {α β : Type} {rel : List Addr → Hp → β → α → Prop} {o : Option α} {Q : β → Hp → Prop} (h : Post K tabs rel f H (Res.of o S) Q XQ) : ∃ d, o = some d ∧ Post K tabs rel f H (.ok d S) Q XQ := by
  cases o with
  | none => exact h.elim
  | some d => exact ⟨d, rfl, h⟩
end

/-! ### operators -/
abbrev PostD (K : PySem.W.Frag) (tabs : List Addr) := Post K tabs (Is K)
/-- the operator f does what g says of data -/
def OpS (X : Cx) (tabs : List Addr) (f : Value → Value → Sem Value) (g : D → D → Sto → Res D) : Prop :=
  ∃ r : R2, OpR X f r ∧ ∀ (fs : List Addr) (S : Sto) (H : Hp) (v u : V) (x y : D) (Q : VK) (XQ : XQT), Rl X.K tabs fs S H → Is X.K fs H v x → Is X.K fs H u y → PostD X.K tabs fs H (g x y S) Q XQ → r v u H Q
section
variable {X : Cx} {tabs : List Addr}
theorem post_if {α β : Type} {K : PySem.W.Frag} {rel : List Addr → Hp → β → α → Prop} {f : List Addr} {H : Hp} {c : Prop} [Decidable c] {r : Res α} {Q : β → Hp → Prop} {XQ : XQT} (h : Post K tabs rel f H (if c then r else .bad) Q XQ) : c ∧ Post K tabs rel f H r Q XQ := by
  by_cases hc : c
  · rw [if_pos hc] at h; exact ⟨hc, h⟩
  · rw [if_neg hc] at h; exact h.elim

theorem mulOk_of {i j : Int} (h : mulOk i j = true) : CMul i j ∨ CMulW i j := by
  unfold mulOk at h
  simp only [Bool.or_eq_true, decide_eq_true_eq] at h
  exact h
theorem op_mulA : OpR X (binaryOp .Mult) (rI (fun i j => CMul i j ∨ CMulW i j) fun i j => .int (i * j)) := opI fun _ _ _ _ _ _ _ hc q => mul_int q (hc.elim CMul.ok CMulW.ok)

theorem opS_add : OpS X tabs (binaryOp .Add) addD := by
  refine ⟨_, OpR.or op_add (OpR.or op_add_str (OpR.or op_catA op_cat)), ?_⟩
  intro fs S H v u x y Q XQ R ix iy h
  cases ix <;> cases iy <;> try exact h.elim
  · rename_i i j
    exact .inl ⟨i, j, rfl, rfl, h.ok R (.int _)⟩
  · rename_i a b
    obtain ⟨hc, h⟩ := post_if h
    exact .inr (.inl ⟨a, b, rfl, rfl, hc, h.ok R (.str _)⟩)
  · rename_i a vs xs ha ta b ws ys hb tb
    obtain ⟨hc, h⟩ := post_if h
    refine .inr (.inr (.inl ⟨a, b, vs, ws, rfl, rfl, ha, hb, by rw [ta.length, tb.length]; exact hc, fun e => ?_, fun _ e => ?_, fun _ _ p hp => ?_⟩))
    · subst e
      cases ta
      exact h.ok R (.tup hb (by simpa using tb))
    · subst e
      cases tb
      exact h.ok R (.tup ha (by simpa using ta))
    · refine h fs (upd H p (.tup (vs ++ ws))) (.ref p) (Ext.lay hp) (R.lay hp) (.tup (SqT.of upd_same) ?_)
      exact (ta.append tb).ext R (Ext.lay hp)
  · rename_i a m ha b n hb
    simp only [addD] at h
    cases e1 : S[m]? with
    | none => rw [e1] at h; exact h.elim
    | some o1 =>
      cases o1 with
      | lst xs =>
        cases e2 : S[n]? with
        | none => rw [e1, e2] at h; exact h.elim
        | some o2 =>
          cases o2 with
          | lst ys =>
            rw [e1, e2] at h
            obtain ⟨hc, h⟩ := post_if h
            obtain ⟨vs, h1, t1⟩ := R.lst e1 ha
            obtain ⟨ws, h2, t2⟩ := R.lst e2 hb
            refine .inr (.inr (.inr ⟨a, b, vs, ws, rfl, rfl, h1, h2, by rw [t1.length, t2.length]; exact hc, fun p hp => ?_⟩))
            exact h _ _ _ (Ext.new hp) (R.new hp (t1.append t2)) (.new R)

theorem opS_bin (op : Operator) : OpS X tabs (binaryOp op) (binD op) := by
  have bad : ∀ {f : Value → Value → Sem Value}, OpS X tabs f (fun _ _ _ => .bad) := fun {f} => ⟨fun _ _ _ _ => False, fun _ _ _ _ _ _ _ _ _ _ _ _ z => z.elim, fun _ _ _ _ _ _ _ _ _ _ _ _ z => z⟩
  cases op with
  | Add => exact opS_add
  | Sub =>
    refine ⟨_, op_sub, ?_⟩
    intro fs S H v u x y Q XQ R ix iy h
    cases ix <;> cases iy <;> try exact h.elim
    exact ⟨_, _, rfl, rfl, h.ok R (.int _)⟩
  | Mult =>
    refine ⟨_, op_mulA, ?_⟩
    intro fs S H v u x y Q XQ R ix iy h
    cases ix <;> cases iy <;> try exact h.elim
    obtain ⟨hc, h⟩ := post_if h
    exact ⟨_, _, rfl, rfl, mulOk_of hc, h.ok R (.int _)⟩
  | FloorDiv =>
    refine ⟨_, op_fdivW, ?_⟩
    intro fs S H v u x y Q XQ R ix iy h
    cases ix <;> cases iy <;> try exact h.elim
    obtain ⟨hc, h⟩ := post_if h
    exact ⟨_, _, rfl, rfl, hc, h.ok R (.int _)⟩
  | Mod =>
    refine ⟨_, op_mod, ?_⟩
    intro fs S H v u x y Q XQ R ix iy h
    cases ix <;> cases iy <;> try exact h.elim
    obtain ⟨hc, h⟩ := post_if h
    exact ⟨_, _, rfl, rfl, hc, h.ok R (.int _)⟩
  | Pow =>
    refine ⟨_, op_pow, ?_⟩
    intro fs S H v u x y Q XQ R ix iy h
    cases ix <;> cases iy <;> try exact h.elim
    obtain ⟨hc, h⟩ := post_if h
    exact ⟨_, _, rfl, rfl, hc, h.ok R (.int _)⟩
  | _ => exact bad

/-! ### comparisons -/
/-- the comparison f does what g says -/
def CmS (X : Cx) (tabs : List Addr) (f : Value → Value → Sem Value) (g : Sto → D → D → Option Bool) : Prop :=
  ∃ r : R2, OpR X f r ∧ ∀ (fs : List Addr) (S : Sto) (H : Hp) (v u : V) (x y : D) (b : Bool) (Q : VK), Rl X.K tabs fs S H → Is X.K fs H v x → Is X.K fs H u y → g S x y = some b → Q (.bl b) H → r v u H Q
def rEqP (K : PySem.W.Frag) : R2 := fun x y H Q => ∃ d e, Dp K H x d ∧ Dp K H y e ∧ min d.depth e.depth ≤ 100 ∧ Q (.bl (PyData.eqv d e)) H
def rNeP (K : PySem.W.Frag) : R2 := fun x y H Q => ∃ d e, Dp K H x d ∧ Dp K H y e ∧ min d.depth e.depth ≤ 100 ∧ Q (.bl (!PyData.eqv d e)) H
theorem op_eqP (hu : X.A.units + 200 < cLine) : OpR X (compareOp .Eq) (rEqP X.K) := by
  intro pins s σ H x y v u Q I rx ry h
  obtain ⟨d, e, hd, he, hm, q⟩ := h
  obtain ⟨as, r1⟩ := Dp.reads I d x v hd rx
  obtain ⟨bs, r2⟩ := Dp.reads I e y u he ry
  exact SeqAt.eq_plain r1 r2 (plain_of hd) (plain_of he) (by omega) ⟨.bl _, H, I, rfl, q⟩
theorem op_neP (hu : X.A.units + 200 < cLine) : OpR X (compareOp .NotEq) (rNeP X.K) := by
  intro pins s σ H x y v u Q I rx ry h
  obtain ⟨d, e, hd, he, hm, q⟩ := h
  obtain ⟨as, r1⟩ := Dp.reads I d x v hd rx
  obtain ⟨bs, r2⟩ := Dp.reads I e y u he ry
  exact SeqAt.ne_plain r1 r2 (plain_of hd) (plain_of he) (by omega) ⟨.bl _, H, I, rfl, q⟩
def rInP (K : PySem.W.Frag) (neg : Bool) : R2 := fun x y H Q => ∃ d ds, Dp K H x d ∧ (Dp K H y (.list ds) ∨ Dp K H y (.tuple ds)) ∧ min (1 + PyData.depthAll ds) d.depth ≤ 100 ∧ Q (.bl (if neg then !(ds.any fun z => PyData.eqv z d) else ds.any fun z => PyData.eqv z d)) H
theorem plainAll_of_list {ds : List PyData} (h : (PyData.list ds).plain = true) : PyData.plainAll ds = true := by simpa [PyData.plain] using h
theorem plainAll_of_tuple {ds : List PyData} (h : (PyData.tuple ds).plain = true) : PyData.plainAll ds = true := by simpa [PyData.plain] using h
theorem op_inP (hu : X.A.units + 200 < cLine) : OpR X (compareOp .In) (rInP X.K false) := by
  intro pins s σ H x y v u Q I rx ry h
  obtain ⟨d, ds, hd, he, hm, q⟩ := h
  obtain ⟨as, r1⟩ := Dp.reads I d x v hd rx
  have hz : X.A.units + 1 + min (PyData.depthAll ds) d.depth < cLine := by
    have : min (PyData.depthAll ds) d.depth ≤ min (1 + PyData.depthAll ds) d.depth := by omega
    omega
  rcases he with he | he
  · obtain ⟨bs, r2⟩ := Dp.reads I _ y u he ry
    exact SeqAt.in_list_data r2 r1 (plainAll_of_list (plain_of he)) (plain_of hd) hz ⟨.bl _, H, I, rfl, q⟩
  · obtain ⟨bs, r2⟩ := Dp.reads I _ y u he ry
    exact SeqAt.in_tuple_data r2 r1 (plainAll_of_tuple (plain_of he)) (plain_of hd) hz ⟨.bl _, H, I, rfl, q⟩
theorem op_notInP (hu : X.A.units + 200 < cLine) : OpR X (compareOp .NotIn) (rInP X.K true) := by
  intro pins s σ H x y v u Q I rx ry h
  obtain ⟨d, ds, hd, he, hm, q⟩ := h
  obtain ⟨as, r1⟩ := Dp.reads I d x v hd rx
  have hz : X.A.units + 1 + min (PyData.depthAll ds) d.depth < cLine := by
    have : min (PyData.depthAll ds) d.depth ≤ min (1 + PyData.depthAll ds) d.depth := by omega
    omega
  rcases he with he | he
  · obtain ⟨bs, r2⟩ := Dp.reads I _ y u he ry
    exact SeqAt.notIn_list_data r2 r1 (plainAll_of_list (plain_of he)) (plain_of hd) hz ⟨.bl _, H, I, rfl, q⟩
  · obtain ⟨bs, r2⟩ := Dp.reads I _ y u he ry
    exact SeqAt.notIn_tuple_data r2 r1 (plainAll_of_tuple (plain_of he)) (plain_of hd) hz ⟨.bl _, H, I, rfl, q⟩
theorem eqD_of {S : Sto} {x y : D} {b : Bool} (h : eqD S x y = some b) : ∃ p q, toP S x = some p ∧ toP S y = some q ∧ min p.depth q.depth ≤ 100 ∧ b = PyData.eqv p q := by
  unfold eqD at h
  obtain ⟨p, e1, h⟩ := Option.bind_eq_some_iff.mp h
  obtain ⟨q, e2, h⟩ := Option.bind_eq_some_iff.mp h
  by_cases hc : min p.depth q.depth ≤ 100
  · rw [if_pos hc] at h
    exact ⟨p, q, e1, e2, hc, (Option.some.inj h).symm⟩
  · rw [if_neg hc] at h; cases h
theorem inD_of {x : D} {xs : List D} {b : Bool} (h : inD x xs = some b) : ∃ p ps, toP0 x = some p ∧ toPs xs = some ps ∧ min (1 + PyData.depthAll ps) p.depth ≤ 100 ∧ b = ps.any fun z => PyData.eqv z p := by
  unfold inD at h
  obtain ⟨p, e1, h⟩ := Option.bind_eq_some_iff.mp h
  obtain ⟨q, e2, h⟩ := Option.bind_eq_some_iff.mp h
  by_cases hc : min (1 + PyData.depthAll q) p.depth ≤ 100
  · rw [if_pos hc] at h
    exact ⟨p, q, e1, e2, hc, (Option.some.inj h).symm⟩
  · rw [if_neg hc] at h; cases h
theorem dpItems {K : PySem.W.Frag} {fs : List Addr} {S : Sto} {H : Hp} {v : V} {d : D} {ys : List D} {ps : List PyData} (R : Rl K tabs fs S H) (h : Is K fs H v d) (e : items S d = some ys) (e2 : toPs ys = some ps) :
    Dp K H v (.list ps) ∨ Dp K H v (.tuple ps) := by
  obtain ⟨a, vs, rfl, q, t⟩ := items_of R h e
  rcases q with q | q
  · exact .inl (.lst q (dps_of t e2))
  · exact .inr (.tup q (dps_of t e2))
theorem toP_toP0 {S : Sto} {d : D} {p : PyData} (h : toP0 d = some p) : toP S d = some p := by
  cases d <;> first | exact h | cases h

theorem opRI {f : Value → Value → Sem Value} {g : Int → Int → Bool} {k : Int → Int → Option Bool} (h : OpR X f (rI0 fun i j => .bl (g i j))) (e : ∀ i j, k i j = some (g i j)) (kk : Sto → D → D → Option Bool)
    (hk : ∀ S x y b, kk S x y = some b → ∃ i j, x = .int i ∧ y = .int j ∧ k i j = some b) : CmS X tabs f kk := by
  refine ⟨_, h, fun fs S H v u x y b Q R ix iy hb q => ?_⟩
  obtain ⟨i, j, rfl, rfl, e2⟩ := hk S x y b hb
  cases ix
  cases iy
  rw [e] at e2
  cases e2
  exact ⟨i, j, rfl, rfl, q⟩
theorem ordB_of {op : CmpOp} {x y : D} {b : Bool} (h : ordB op x y = some b) : ∃ i j, x = .int i ∧ y = .int j ∧ ordB op (.int i) (.int j) = some b := by
  cases x <;> cases y <;> first | exact ⟨_, _, rfl, rfl, h⟩ | (cases op <;> cases h)
theorem cmS (hu : X.A.units + 200 < cLine) (op : CmpOp) : CmS X tabs (compareOp op) (cmpB op) := by
  cases op with
  | Eq =>
    refine ⟨_, op_eqP hu, fun fs S H v u x y b Q R ix iy hb q => ?_⟩
    obtain ⟨p, p', e1, e2, hm, rfl⟩ := eqD_of hb
    exact ⟨p, p', dpS_of R ix e1, dpS_of R iy e2, hm, q⟩
  | NotEq =>
    refine ⟨_, op_neP hu, fun fs S H v u x y b Q R ix iy hb q => ?_⟩
    obtain ⟨k, hb', rfl⟩ := Option.map_eq_some_iff.mp hb
    obtain ⟨p, p', e1, e2, hm, rfl⟩ := eqD_of hb'
    exact ⟨p, p', dpS_of R ix e1, dpS_of R iy e2, hm, q⟩
  | Lt => exact opRI op_lt (k := fun i j => some (decide (i < j))) (fun _ _ => rfl) _ fun S x y b h => ordB_of (op := .Lt) h
  | LtE => exact opRI op_le (k := fun i j => some (decide (i ≤ j))) (fun _ _ => rfl) _ fun S x y b h => ordB_of (op := .LtE) h
  | Gt => exact opRI op_gt (k := fun i j => some (decide (j < i))) (fun _ _ => rfl) _ fun S x y b h => ordB_of (op := .Gt) h
  | GtE => exact opRI op_ge (k := fun i j => some (decide (j ≤ i))) (fun _ _ => rfl) _ fun S x y b h => ordB_of (op := .GtE) h
  | Is =>
    refine ⟨_, OpR.or op_isN op_is_bl, fun fs S H v u x y b Q R ix iy hb q => ?_⟩
    cases iy with
    | non =>
      cases (Option.some.inj (show some (decide (x = D.non)) = some b from by cases x <;> exact hb))
      refine .inl ⟨rfl, ?_⟩
      have e : decide (v = V.non) = decide (x = D.non) := by cases ix <;> simp
      rw [e]; exact q
    | bl k =>
      cases ix <;> try (cases hb)
      exact .inr ⟨_, _, rfl, rfl, q⟩
    | _ => cases x <;> cases hb
  | IsNot =>
    refine ⟨_, OpR.or op_notN op_isnot_bl, fun fs S H v u x y b Q R ix iy hb q => ?_⟩
    obtain ⟨k0, hb', rfl⟩ := Option.map_eq_some_iff.mp hb
    clear hb
    cases iy with
    | non =>
      cases (Option.some.inj (show some (decide (x = D.non)) = some k0 from by cases x <;> exact hb'))
      refine .inl ⟨rfl, ?_⟩
      have e : decide (v = V.non) = decide (x = D.non) := by cases ix <;> simp
      rw [e]; exact q
    | bl k =>
      cases ix <;> try (cases hb')
      exact .inr ⟨_, _, rfl, rfl, q⟩
    | _ => cases x <;> cases hb'
  | In =>
    refine ⟨_, OpR.or op_in_str (op_inP hu), fun fs S H v u x y b Q R ix iy hb q => ?_⟩
    by_cases hs : ∃ a c, x = .str a ∧ y = .str c
    · obtain ⟨a, c, rfl, rfl⟩ := hs
      cases ix; cases iy; cases hb
      exact .inl ⟨a, c, rfl, rfl, q⟩
    · have hb : ((items S y).bind fun ys => inD x ys) = some b := by
        cases x <;> cases y <;> first | exact hb | exact absurd ⟨_, _, rfl, rfl⟩ hs
      obtain ⟨ys, e1, hb⟩ := Option.bind_eq_some_iff.mp hb
      obtain ⟨p, ps, e2, e3, hm, rfl⟩ := inD_of hb
      exact .inr ⟨p, ps, dp_of ix e2, dpItems R iy e1 e3, hm, q⟩
  | NotIn =>
    refine ⟨_, OpR.or op_notin_str (op_notInP hu), fun fs S H v u x y b Q R ix iy hb q => ?_⟩
    obtain ⟨k0, hb', rfl⟩ := Option.map_eq_some_iff.mp hb
    clear hb
    by_cases hs : ∃ a c, x = .str a ∧ y = .str c
    · obtain ⟨a, c, rfl, rfl⟩ := hs
      cases ix; cases iy; cases hb'
      exact .inl ⟨a, c, rfl, rfl, q⟩
    · have hb : ((items S y).bind fun ys => inD x ys) = some k0 := by
        cases x <;> cases y <;> first | exact hb' | exact absurd ⟨_, _, rfl, rfl⟩ hs
      obtain ⟨ys, e1, hb⟩ := Option.bind_eq_some_iff.mp hb
      obtain ⟨p, ps, e2, e3, hm, rfl⟩ := inD_of hb
      exact .inr ⟨p, ps, dp_of ix e2, dpItems R iy e1 e3, hm, q⟩

/-! ### truth, subscripts, slices -/
theorem tru_of {K : PySem.W.Frag} {fs : List Addr} {S : Sto} {H : Hp} {v : V} {d : D} {b : Bool} (R : Rl K tabs fs S H) (h : Is K fs H v d) (e : truB S d = some b) : TruV K v H b := by
  cases h with
  | non => cases e; rfl
  | bl k => cases e; rfl
  | int i => cases e; rfl
  | str x =>
    simp only [truB] at e
    by_cases hc : x.length ≤ sizeLine
    · rw [if_pos hc] at e; cases e; exact ⟨hc, rfl⟩
    · rw [if_neg hc] at e; cases e
  | ty _ => cases e
  | tup h t =>
    cases e
    refine .inr (.inl ⟨_, h, ?_⟩)
    cases t <;> rfl
  | frl h t =>
    cases e
    refine .inl ⟨_, h.seq, ?_⟩
    cases t <;> rfl
  | @ref a n h =>
    obtain ⟨ys, e1, rfl⟩ := Option.map_eq_some_iff.mp (show (items S (.ref n)).map (fun xs => !xs.isEmpty) = some b from e)
    obtain ⟨a', vs, e2, q, t⟩ := items_of (tabs := tabs) R (.ref h) e1
    cases e2
    have ee : (!ys.isEmpty) = !vs.isEmpty := by cases t <;> rfl
    rw [ee]
    rcases q with q | q
    · exact .inl ⟨_, q, rfl⟩
    · exact .inr (.inl ⟨_, q, rfl⟩)
theorem atI_rel {K : PySem.W.Frag} {fs : List Addr} {H : Hp} {vs : List V} {ds : List D} {i : Int} {d : D} (t : IsL K fs H vs ds) (h : atI ds i = some d) : ∃ v, atI vs i = some v ∧ Is K fs H v d := by
  unfold atI at h ⊢
  rw [t.length]
  cases e : ixN ds.length i with
  | none => rw [e] at h; cases h
  | some j =>
    rw [e] at h
    exact t.getD h
/-- x[i] -/
theorem ixS : ∃ r : R2, IxR X r ∧ ∀ (fs : List Addr) (S : Sto) (H : Hp) (v u : V) (x y : D) (d : D) (Q : VK), Rl X.K tabs fs S H → Is X.K fs H v x → Is X.K fs H u y → idxD S x y = some d → (∀ w, Is X.K fs H w d → Q w H) → r v u H Q := by
  refine ⟨_, ix_seq, fun fs S H v u x y d Q R ix iy hd q => ?_⟩
  cases iy with
  | int i =>
    by_cases hs : ∃ z, x = .str z
    · obtain ⟨z, rfl⟩ := hs
      cases ix
      simp only [idxD] at hd
      by_cases hc : z.length ≤ sizeLine
      · rw [if_pos hc] at hd
        obtain ⟨c, e, rfl⟩ := Option.map_eq_some_iff.mp hd
        exact .inr (.inr ⟨z, i, c, rfl, rfl, hc, e, q _ (.str _)⟩)
      · rw [if_neg hc] at hd; cases hd
    · have hd : ((items S x).bind fun xs => atI xs i) = some d := by
        cases x <;> first | exact hd | exact absurd ⟨_, rfl⟩ hs
      obtain ⟨ys, e1, e2⟩ := Option.bind_eq_some_iff.mp hd
      obtain ⟨a, vs, rfl, qq, t⟩ := items_of R ix e1
      obtain ⟨w, e3, iw⟩ := atI_rel t e2
      rcases qq with qq | qq
      · exact .inl ⟨a, vs, i, w, rfl, rfl, qq, e3, q w iw⟩
      · exact .inr (.inl ⟨a, vs, i, w, rfl, rfl, qq, e3, q w iw⟩)
  | _ => cases x <;> cases hd
theorem cut_rel {K : PySem.W.Frag} {fs : List Addr} {H : Hp} {vs : List V} {ds : List D} (t : IsL K fs H vs ds) (lo hi : Option Int) : IsL K fs H (cutV vs lo hi) (cutD ds lo hi) := by
  unfold cutV cutD
  rw [t.length]
  exact (t.drop _).take _
theorem cutV_whole {vs : List V} {lo hi : Option Int} (h : HT.sIx vs.length 0 lo = 0 ∧ HT.sIx vs.length vs.length hi = vs.length) : cutV vs lo hi = vs := by
  unfold cutV
  rw [h.1, h.2]
  simp
/-- x[lo:hi] -/
theorem slS : ∃ r, SlR X r ∧ ∀ (fs : List Addr) (S : Sto) (H : Hp) (v : V) (x : D) (lo hi : Option Int) (Q : VK) (XQ : XQT), Rl X.K tabs fs S H → Is X.K fs H v x → PostD X.K tabs fs H (slcD x lo hi S) Q XQ → r v lo hi H Q := by
  refine ⟨_, SlR.or sl_str (SlR.or sl_tupA sl_list), fun fs S H v x lo hi Q XQ R ix h => ?_⟩
  cases ix with
  | str z =>
    obtain ⟨hc, h⟩ := post_if h
    exact .inl ⟨z, rfl, hc, h.ok R (.str _)⟩
  | @tup a vs xs ha t =>
    refine .inr (.inl ⟨a, vs, rfl, ha, fun e => ?_, fun e p hp => ?_⟩)
    · refine h.ok R (.tup ha ?_)
      have := cut_rel t lo hi
      rw [cutV_whole e] at this
      exact this
    · exact h fs _ _ (Ext.lay hp) (R.lay hp) (.tup (SqT.of upd_same) ((cut_rel t lo hi).ext R (Ext.lay hp)))
  | @frl a vs xs ha t =>
    exact .inr (.inr ⟨a, vs, rfl, ha.seq, fun p hp => h _ _ _ (Ext.new hp) (R.new hp (cut_rel t lo hi)) (.new R)⟩)
  | @ref a n ha =>
    simp only [slcD] at h
    cases e : S[n]? with
    | none => rw [e] at h; exact h.elim
    | some o =>
      cases o with
      | lst ys =>
        rw [e] at h
        obtain ⟨vs, h1, t⟩ := R.lst e ha
        exact .inr (.inr ⟨a, vs, rfl, .inl (.inl h1), fun p hp => h _ _ _ (Ext.new hp) (R.new hp (cut_rel t lo hi)) (.new R)⟩)
  | _ => exact h.elim
end
end Rv

set_option Elab.async false
set_option linter.all false
set_option maxRecDepth 100000
set_option maxHeartbeats 4000000
/-! RvD: built-in functions and types called, methods of built-in types. -/
namespace Rv
open PySem PySem.Spec PyProof.Rows L2
abbrev PostL (K : PySem.W.Frag) (tabs : List Addr) := Post K tabs (IsL K)
def B.nm : B → Str
  | .len => "len" | .abs => "abs" | .int => "int" | .str => "str" | .isi => "isinstance" | .tuple => "tuple" | .list => "list"
def B.vl : B → Value
  | .len => .builtin "len" | .abs => .builtin "abs" | .int => .type "int" | .str => .type "str" | .isi => .builtin "isinstance" | .tuple => .type "tuple" | .list => .type "list"
theorem B.boot (b : B) : bootBuiltins b.nm = some b.vl := by cases b <;> decide +kernel
theorem B.ndeb (b : B) : (b.nm == ("__debug__" : Str)) = false := by cases b <;> decide +kernel
theorem B.nname (b : B) : b.nm ≠ ("__name__" : Str) := by cases b <;> decide +kernel
/-- the call of f does what g says -/
def ClS (X : Cx) (tabs : List Addr) (f : Value) (g : List D → Sto → Res D) : Prop :=
  ∃ r, CallR X f r ∧ ∀ (fs : List Addr) (S : Sto) (H : Hp) (vs : List V) (ds : List D) (Q : VK) (XQ : XQT), Rl X.K tabs fs S H → IsL X.K fs H vs ds → PostD X.K tabs fs H (g ds S) Q XQ → r vs H Q
section
variable {X : Cx} {tabs : List Addr}
theorem isL1 {K : PySem.W.Frag} {fs : List Addr} {H : Hp} {vs : List V} {x : D} (t : IsL K fs H vs [x]) : ∃ v, vs = [v] ∧ Is K fs H v x := by
  cases t with
  | cons h t => cases t; exact ⟨_, rfl, h⟩
theorem isL2 {K : PySem.W.Frag} {fs : List Addr} {H : Hp} {vs : List V} {x y : D} (t : IsL K fs H vs [x, y]) : ∃ v u, vs = [v, u] ∧ Is K fs H v x ∧ Is K fs H u y := by
  cases t with
  | cons h t =>
    obtain ⟨u, rfl, h2⟩ := isL1 t
    exact ⟨_, u, rfl, h, h2⟩
theorem kit_tab : ∀ r ∈ isiTab, kitB r.1 r.2.1 = some r.2.2 := by decide +kernel
theorem isi_of {t T : String} {b : Bool} (h : isiB t T = some b) : kitB t T = some b := by
  unfold isiB at h
  obtain ⟨r, e, rfl⟩ := Option.map_eq_some_iff.mp h
  have h1 := List.find?_some e
  have h2 := List.mem_of_find?_eq_some e
  simp only [Bool.and_eq_true, beq_iff_eq] at h1
  rw [← h1.1, ← h1.2]
  exact kit_tab r h2
theorem ty_of {K : PySem.W.Frag} {fs : List Addr} {S : Sto} {H : Hp} {v : V} {d : D} {t : String} (R : Rl K tabs fs S H) (h : Is K fs H v d) (e : tyD S d = some t) : TyX K H v (.type t) := by
  cases h with
  | non => cases e; exact .base .non
  | bl k => cases e; exact .base (.bl k)
  | int i => cases e; exact .base (.int i)
  | str x => cases e; exact .base (.str x)
  | ty _ => cases e
  | tup h t =>
    cases e
    rcases h with (h | ⟨o, h⟩) | ⟨o, its, n, h, hc, _⟩
    · exact .base (.tup h)
    · exact .fTuple h
    · exact .kTuple h hc
  | frl h t =>
    cases e
    rcases h.seq with (h | ⟨o, h⟩) | ⟨o, its, n, h, hc, _⟩
    · exact .base (.lst h)
    · exact .base (.frz h)
    · exact .kList h hc
  | @ref a n h =>
    simp only [tyD] at e
    cases q : S[n]? with
    | none => rw [q] at e; cases e
    | some o =>
      rw [q] at e
      cases o with
      | lst ys =>
        cases e
        obtain ⟨vs, h1, _⟩ := R.lst q h
        exact .base (.lst h1)
theorem clS_blt (b : B) : ClS X tabs b.vl (bltD b) := by
  cases b with
  | len =>
    refine ⟨_, CallR.or call_len_seq call_len_str, fun fs S H vs ds Q XQ R t h => ?_⟩
    change PostD _ _ _ _ (lenD ds S) _ _ at h
    unfold lenD at h
    split at h
    · obtain ⟨v, rfl, i⟩ := isL1 t
      cases i
      obtain ⟨hc, h⟩ := post_if h
      exact .inr ⟨_, rfl, hc, h.ok R (.int _)⟩
    · obtain ⟨v, rfl, i⟩ := isL1 t
      obtain ⟨d, e, h⟩ := Post.of h
      obtain ⟨ys, e1, rfl⟩ := Option.map_eq_some_iff.mp e
      obtain ⟨a, vs, rfl, q, t2⟩ := items_of R i e1
      exact .inl ⟨a, vs, rfl, q, by rw [t2.length]; exact h.ok R (.int _)⟩
    · exact h.elim
  | abs =>
    refine ⟨_, call_abs, fun fs S H vs ds Q XQ R t h => ?_⟩
    change PostD _ _ _ _ (absD ds S) _ _ at h
    unfold absD at h
    split at h
    · obtain ⟨v, rfl, i⟩ := isL1 t
      cases i
      exact ⟨_, rfl, h.ok R (.int _)⟩
    · exact h.elim
  | int =>
    refine ⟨_, CallR.or call_int1 call_int_str, fun fs S H vs ds Q XQ R t h => ?_⟩
    change PostD _ _ _ _ (intD ds S) _ _ at h
    unfold intD at h
    split at h
    · obtain ⟨v, rfl, i⟩ := isL1 t
      cases i
      exact .inl (.inl ⟨_, rfl, h.ok R (.int _)⟩)
    · obtain ⟨v, rfl, i⟩ := isL1 t
      cases i
      exact .inl (.inr ⟨_, rfl, h.ok R (.int _)⟩)
    · obtain ⟨v, rfl, i⟩ := isL1 t
      cases i
      obtain ⟨hc, h⟩ := post_if h
      obtain ⟨d, e, h⟩ := Post.of h
      obtain ⟨n, e1, rfl⟩ := Option.map_eq_some_iff.mp e
      exact .inr ⟨_, _, rfl, e1, hc, h.ok R (.int _)⟩
    · exact h.elim
  | str =>
    refine ⟨_, call_str_int, fun fs S H vs ds Q XQ R t h => ?_⟩
    change PostD _ _ _ _ (strD ds S) _ _ at h
    unfold strD at h
    split at h
    · obtain ⟨v, rfl, i⟩ := isL1 t
      cases i
      obtain ⟨hc, h⟩ := post_if h
      exact ⟨_, rfl, hc, h.ok R (.str _)⟩
    · exact h.elim
  | isi =>
    refine ⟨_, call_isi, fun fs S H vs ds Q XQ R t h => ?_⟩
    change PostD _ _ _ _ (isiD ds S) _ _ at h
    unfold isiD at h
    split at h
    · obtain ⟨v, u, rfl, i, j⟩ := isL2 t
      cases j
      obtain ⟨d, e, h⟩ := Post.of h
      obtain ⟨tn, e1, e2⟩ := Option.bind_eq_some_iff.mp e
      obtain ⟨b, e3, rfl⟩ := Option.map_eq_some_iff.mp e2
      exact ⟨v, .ty _, _, _, b, rfl, .ty _, ty_of R i e1, kit_ty (isi_of e3), h.ok R (.bl _)⟩
    · exact h.elim
  | tuple =>
    refine ⟨_, call_tuple_of, fun fs S H vs ds Q XQ R t h => ?_⟩
    change PostD _ _ _ _ (tupleD ds S) _ _ at h
    unfold tupleD at h
    split at h
    · obtain ⟨v, rfl, i⟩ := isL1 t
      obtain ⟨d, e, h⟩ := Post.of h
      obtain ⟨ys, e1, rfl⟩ := Option.map_eq_some_iff.mp e
      obtain ⟨a, vs, rfl, q, t2⟩ := items_of R i e1
      rcases q with q | q
      · exact ⟨a, vs, rfl, .inl ⟨q, fun l hl => h fs _ _ (Ext.lay hl) (R.lay hl) (.tup (SqT.of upd_same) (t2.ext R (Ext.lay hl)))⟩⟩
      · exact ⟨a, vs, rfl, .inr ⟨q, h.ok R (.tup q t2)⟩⟩
    · exact h.elim
  | list =>
    refine ⟨_, call_list_of, fun fs S H vs ds Q XQ R t h => ?_⟩
    change PostD _ _ _ _ (listD ds S) _ _ at h
    unfold listD at h
    split at h
    · obtain ⟨v, rfl, i⟩ := isL1 t
      split at h
      · rename_i e1
        obtain ⟨a, vs, rfl, q, t2⟩ := items_of R i e1
        exact ⟨a, vs, rfl, q, fun l hl => h _ _ _ (Ext.new hl) (R.new hl t2) (.new R)⟩
      · exact h.elim
    · exact h.elim

/-! ### methods -/
def Mt.nm : Mt → Str
  | .append => "append" | .partition => "partition" | .countB => "count"
def Mt.ty : Mt → String
  | .append => "list" | .partition => "str" | .countB => "list"
def Mt.id : Mt → String
  | .append => "list.append" | .partition => "str.partition" | .countB => "list.count"
theorem Mt.slot (m : Mt) : Slot m.ty m.nm m.id := by
  cases m
  · exact PySem.F.slot_list_append
  · exact PySem.F.slot_str_partition
  · exact PySem.F.slot_list_count
theorem Mt.plain (m : Mt) : PlainAttrs m.ty := by
  cases m
  · exact PySem.F.plainAttrs_list
  · exact PySem.F.plainAttrs_str
  · exact PySem.F.plainAttrs_list
theorem Mt.typ (m : Mt) : typeOf (.builtin m.id) = pure (.type "method_descriptor") := by
  cases m
  · exact PySem.F.type_list_append
  · exact PySem.F.type_str_partition
  · exact PySem.F.type_list_count
/-- y == x of flat values, as data -/
theorem flat_rel {K : PySem.W.Frag} {fs : List Addr} {H : Hp} {v : V} {d : D} (i : Is K fs H v d) (h : flatD d = true) : flatV v = true := by
  cases i <;> first | rfl | cases h
theorem eqF_rel {K : PySem.W.Frag} {fs : List Addr} {H : Hp} {v u : V} {x y : D} (i : Is K fs H v x) (j : Is K fs H u y) (h : flatD x = true) (h2 : flatD y = true) : eqV v u = eqF x y := by
  cases i <;> cases j <;> first | rfl | cases h | cases h2
theorem all_flat {K : PySem.W.Frag} {fs : List Addr} {H : Hp} : ∀ {vs : List V} {ds : List D}, IsL K fs H vs ds → ds.all flatD = true → vs.all flatV = true
  | _, _, .nil, _ => rfl
  | _, _, .cons i t, h => by
    rw [List.all_cons, Bool.and_eq_true] at h
    rw [List.all_cons, flat_rel i h.1, all_flat t h.2]; rfl
theorem count_flat {K : PySem.W.Frag} {fs : List Addr} {H : Hp} {v : V} {x : D} (j : Is K fs H v x) (hx : flatD x = true) : ∀ {vs : List V} {ds : List D}, IsL K fs H vs ds → ds.all flatD = true → vs.countP (fun y => eqV y v) = ds.countP (fun y => eqF y x)
  | _, _, .nil, _ => rfl
  | _, _, .cons i t, h => by
    rw [List.all_cons, Bool.and_eq_true] at h
    rw [List.countP_cons, List.countP_cons, eqF_rel i j h.1 hx, count_flat j hx t h.2]
theorem count_eqU {x : V} : ∀ {xs : List V} {us : List Value}, Vals xs us → xs.all flatV = true → us.countP (eqU x) = xs.countP fun y => eqV y x
  | _, _, .nil, _ => rfl
  | y :: xs, u :: us, .cons r t, f => by
    rw [List.all_cons, Bool.and_eq_true] at f
    rw [List.countP_cons, List.countP_cons, eqU_of r f.1, count_eqU t f.2]
def rCntV (K : PySem.W.Frag) : V → List V → Hp → VK → Prop := fun x xs H Q => ∃ (p : Addr) (ys : List V) (k : V), x = .ref p ∧ xs = [k] ∧ SqL K H p ys ∧ flatV k = true ∧ ys.all flatV = true ∧ Q (.int (ys.countP fun y => eqV y k : Nat)) H
theorem mt_countV : MtR X "list.count" (rCntV X.K) := by
  intro pins s σ H x xs v us Q I rx rxs h
  obtain ⟨p, ys, k, rfl, rfl, hs, fk, fs, q⟩ := h
  cases rx
  obtain ⟨u, rfl, ru⟩ := rxs.one
  obtain ⟨its, rv, ⟨⟨cls, dd, data, sl⟩, n, ho, hc, hdn, hd⟩, hlen⟩ := I.list hs
  simp only at hc hd
  subst hc hd
  refine call_meets PySem.F.slot_list_count ⟨_, ho, rfl⟩ PySem.F.entry_list_count (PySem.F.args_list_count_2 _ _)
    (SeqAt.list_countAt p its.toArray n dd sl u (eqU k)) ⟨ho, fun y hy => mem_eqAt ru fk rv fs y (by simpa using hy), ?_⟩
  have ec : its.toArray.toList.countP (eqU k) = ys.countP (fun y => eqV y k) := count_eqU rv fs
  refine ⟨.int (ys.countP (fun y => eqV y k) : Nat), H, I.tok _, ⟨s.toks, ?_⟩, q⟩
  show Value.int ((its.toArray.toList.countP (eqU k) : Nat) : Int) s.toks = Value.int ((ys.countP (fun y => eqV y k) : Nat) : Int) s.toks
  rw [ec]
/-- the method m does what mthD says -/
theorem mtS (m : Mt) : ∃ r, MtR X m.id r ∧ ∀ (fs : List Addr) (S : Sto) (H : Hp) (v : V) (x : D) (vs : List V) (ds : List D) (Q : VK) (XQ : XQT), Rl X.K tabs fs S H → Is X.K fs H v x → IsL X.K fs H vs ds → PostD X.K tabs fs H (mthD m x ds S) Q XQ → r v vs H Q := by
  cases m with
  | append =>
    refine ⟨_, mt_append, fun fs S H v x vs ds Q XQ R i t h => ?_⟩
    change PostD _ _ _ _ (appendD x ds S) _ _ at h
    unfold appendD at h
    split at h
    · obtain ⟨w, rfl, j⟩ := isL1 t
      cases i with
      | @ref a _ ha =>
        split at h
        · rename_i e
          obtain ⟨hc, h⟩ := post_if h
          obtain ⟨zs, h1, t2⟩ := R.lst e ha
          have z := R.put ha (t2.append (IsL.one j))
          exact ⟨a, zs, w, rfl, rfl, h1, by rw [t2.length]; exact hc, h fs _ _ z.2 z.1 .non⟩
        · exact h.elim
    · exact h.elim
  | partition =>
    refine ⟨_, mt_partition, fun fs S H v x vs ds Q XQ R i t h => ?_⟩
    change PostD _ _ _ _ (partitionD x ds S) _ _ at h
    unfold partitionD at h
    split at h
    · obtain ⟨w, rfl, j⟩ := isL1 t
      cases i
      cases j
      obtain ⟨hc, h⟩ := post_if h
      exact ⟨_, _, rfl, rfl, hc.1, hc.2, fun p hp => h fs _ _ (Ext.lay hp) (R.lay hp) (.tup (SqT.of upd_same) (.cons (.str _) (.cons (.str _) (.cons (.str _) .nil))))⟩
    · exact h.elim
  | countB =>
    refine ⟨_, mt_countV, fun fs S H v x vs ds Q XQ R i t h => ?_⟩
    change PostD _ _ _ _ (countD x ds S) _ _ at h
    unfold countD at h
    split at h
    · obtain ⟨w, rfl, j⟩ := isL1 t
      cases i with
      | @ref a _ ha =>
        split at h
        · rename_i e
          obtain ⟨hc, h⟩ := post_if h
          obtain ⟨zs, h1, t2⟩ := R.lst e ha
          exact ⟨a, zs, w, rfl, rfl, .inl (.inl h1), flat_rel j hc.1, all_flat t2 hc.2, by rw [count_flat j hc.1 t2 hc.2]; exact h.ok R (.int _)⟩
        · exact h.elim
    · exact h.elim
/-- the receiver is of the method's type -/
theorem mt_ty {K : PySem.W.Frag} {fs : List Addr} {S : Sto} {H : Hp} {v : V} {x : D} (m : Mt) (R : Rl K tabs fs S H) (i : Is K fs H v x) (h : mtB m x S = true) : tyV K m.ty v H := by
  unfold mtB at h
  split at h
  · cases i; rfl
  · split at h
    · rename_i e
      cases i with
      | ref ha => obtain ⟨vs, h1, _⟩ := R.lst e ha; exact .inl ⟨rfl, vs, .inl (.inl h1)⟩
    · cases h
  · split at h
    · rename_i e
      cases i with
      | ref ha => obtain ⟨vs, h1, _⟩ := R.lst e ha; exact .inl ⟨rfl, vs, .inl (.inl h1)⟩
    · cases h
  · cases h
end
end Rv

set_option Elab.async false
set_option linter.all false
set_option maxRecDepth 100000
set_option maxHeartbeats 4000000
/-! RvE: contexts, the checker, expressions. -/
namespace Rv
open PySem PySem.Spec PyProof.Rows L2

/-! ### written forms -/
def nst : Expr → Bool
  | .Starred .. => false
  | _ => true
theorem star_cons {e : Expr} {es : List Expr} {env : PySem.Env} (h : nst e = true) : starEach (e :: es) env = (false, eval e env) :: starEach es env := by
  cases e <;> first | rfl | cases h
theorem star_any {pos : Pos} {env : PySem.Env} : ∀ {es : List Expr}, es.all nst = true → (backTo pos (starEach es env)).any (·.1) = false
  | [], _ => rfl
  | e :: es, h => by
    rw [List.all_cons, Bool.and_eq_true] at h
    rw [star_cons h.1]
    show (false || (backTo pos (starEach es env)).any (·.1)) = false
    rw [star_any h.2]; rfl
theorem star_all {pos : Pos} {env : PySem.Env} : ∀ {es : List Expr}, es.all nst = true → (backTo pos (starEach es env)).all (fun x => !x.1) = true
  | [], _ => rfl
  | e :: es, h => by
    rw [List.all_cons, Bool.and_eq_true] at h
    rw [star_cons h.1]
    show (true && (backTo pos (starEach es env)).all (fun x => !x.1)) = true
    rw [star_all h.2]; rfl
theorem asg_len {env : PySem.Env} : ∀ {es : List Expr}, (assignEach es env).length = es.length
  | [] => rfl
  | e :: es => by cases e <;> (show (assignEach es env).length + 1 = es.length + 1; rw [asg_len])
theorem asg_none {env : PySem.Env} : ∀ {es : List Expr}, es.all nst = true → (assignEach es env).findIdx? (·.1) = none
  | [], _ => rfl
  | e :: es, h => by
    rw [List.all_cons, Bool.and_eq_true] at h
    have ih := asg_none (env := env) h.2
    have e1 : assignEach (e :: es) env = (false, assign e env) :: assignEach es env := by
      cases e <;> first | rfl | exact absurd h.1 (by simp [nst])
    rw [e1, List.findIdx?_cons, ih]
    rfl
def nsup : Expr → Bool
  | .Call (.Name _ _) [] [] _ => false
  | _ => true
theorem base_of {o : Expr} {a : Str} {env : PySem.Env} {whole : Sem Value} (h : nsup o = true) : attributeBase o a env whole = whole := by
  unfold attributeBase
  split
  · cases h
  · rfl
def nslc : Expr → Bool
  | .Slice .. => false
  | _ => true
theorem ix_of {b : Expr} (h : nslc b = true) : PlainIx b := fun o i => by
  cases b <;> first | rfl | cases h
def nset : Expr → Bool
  | .Set .. => false
  | _ => true
theorem fold_of {e : Expr} {env : PySem.Env} (h : nset e = true) : ∀ x, foldedSetIterable e env x = pure x := fun x => by
  cases e <;> first | rfl | cases h
theorem mark_of {e : Expr} {op : CmpOp} (h : nset e = true) : behindInMarks op e = false := by
  cases e <;> first | rfl | cases h
def ntst : Expr → Bool
  | .UnaryOp .. => false
  | .BoolOp .. => false
  | .IfExp .. => false
  | .Compare .. => false
  | _ => true
theorem tst_of {e : Expr} {env : PySem.Env} (h : ntst e = true) : ∀ whole, isTrue e env whole = (do let v ← whole; standAt e.pos; holding [v] (truthy v)) := fun whole => by
  cases e <;> first | rfl | cases h
def nlc : Expr → Bool
  | .ListComp .. => false
  | .SetComp .. => false
  | .DictComp .. => false
  | _ => true
theorem sw_of {e : Expr} {t : Option Expr} {l : Nat} {env : PySem.Env} (h : nlc e = true) : swapsWith e t l env = pure false := by
  cases e <;> first | rfl | cases h
theorem sws_of {e : Expr} {t : Expr} {l : Nat} {env : PySem.Env} (h : nlc e = true) : swapsWithSole [t] e l env = pure false := sw_of h

/-! ### contexts -/
/-- what is written of a context: the slots' names, the scope that runs, the names that may be stored to -/
structure Gx where
  N : List Str
  sc : Scope
  st : List Str
/-- what is written of a module: the defs, the free names (built-in ones), the constants -/
structure Tb where
  fns : List Str
  free : List Str
  glo : List (Str × D)
abbrev XIT := D → Sto → List Addr → Hp → Value → Option Addr → Prop
/-- the promise of a def that does what T says -/
def spF (K : PySem.W.Frag) (tabs : List Addr) (XI : XIT) (T : List D → Sto → Res D) : Sp := fun vs H Q E => ∃ fs S ds, Rl K tabs fs S H ∧ IsL K fs H vs ds ∧
  PostD K tabs fs H (T ds S) Q (fun x S' f' H' => ∀ c d, XI x S' f' H' c d → E c d H')
structure GlobOk (tb : Tb) (tabs : List Addr) (k : Nat) (T : Nat → List D → Sto → Res D) (CX : CXT) (XI : XIT) (P : Program) (w : World) (K : PySem.W.Frag) (mg : Str → Option Value) (base : Heap) : Prop where
  free : ∀ x ∈ tb.free, mg x = none
  glo : ∀ p ∈ tb.glo, ∃ u v, mg p.1 = some u ∧ RelV v u ∧ ∀ fs H, Is K fs H v p.2
  fn : ∀ (i : Nat) (x : Str), tb.fns[i]? = some x → ∃ f fd ps, mg x = some (.ref f) ∧ PySem.W.keepIn K (.ref f) = true ∧ Binds K fd ps [] ∧ FnOk P w K mg base CX k f fd ps (spF K tabs XI (T i))
  cx0 : ∀ l H s e s', ¬ CX l H s E0 e s'
structure Good (tb : Tb) (tabs : List Addr) (k m : Nat) (T : Nat → List D → Sto → Res D) (CX : CXT) (XI : XIT) (G : Gx) (XQ : XQT) (X : Cx) : Prop where
  N : X.N = G.N
  nd : G.N.Nodup
  sc : X.env.scope = G.sc
  st : ∀ x ∈ G.st, Loc G.sc x ∧ (X.fn x = true ∨ G.sc.names.lookup x = some .local)
  calm : X.calm = true
  room : Room (k + m) X.A
  cd : 0 < m → ∃ c P, X.env.code = .ref c ∧ GxR.TabB X.base X.mg c P ∧ P ∈ tabs
  po : PassesOwn (model X.prog X.w) X.A X.env X.xe
  gl : GlobOk tb tabs k T CX XI X.prog X.w X.K X.mg X.base
  pas : ∃ E, Passes CX X E ∧ ∀ x S f H, XQ x S f H → ∀ c d, XI x S f H c d → E c d H
/-- the slots hold what the environment says -/
structure EnvIs (K : PySem.W.Frag) (f : List Addr) (H : Hp) (σ : L2.St) (ρ : Env) : Prop where
  len : ρ.length = σ.length
  get : ∀ (i : Nat) (d : D), ρ[i]? = some (some d) → ∃ v, σ[i]? = some (some v) ∧ Is K f H v d
section
variable {K : PySem.W.Frag} {tabs f f' : List Addr} {S : Sto} {H H' : Hp} {σ : L2.St} {ρ : Env}
theorem EnvIs.ext (R : Rl K tabs f S H) (x : Ext tabs f H f' H') (e : EnvIs K f H σ ρ) : EnvIs K f' H' σ ρ :=
  ⟨e.len, fun i d h => let ⟨v, h1, h2⟩ := e.get i d h; ⟨v, h1, h2.ext R x⟩⟩
theorem EnvIs.set {v : V} {d : D} (e : EnvIs K f H σ ρ) (i : Nat) (h : Is K f H v d) : EnvIs K f H (σ.set i (some v)) (ρ.set i (some d)) := by
  refine ⟨by simp [e.len], fun j d' h' => ?_⟩
  by_cases hj : i = j
  · subst hj
    by_cases hl : i < ρ.length
    · rw [List.getElem?_set_self hl] at h'
      cases h'
      exact ⟨v, List.getElem?_set_self (by rw [← e.len]; exact hl), h⟩
    · rw [List.getElem?_eq_none (by simpa using hl)] at h'; cases h'
  · rw [List.getElem?_set_ne hj] at h' ⊢
    exact e.get j d' h'
theorem EnvIs.wipe (e : EnvIs K f H σ ρ) : ∀ vs : List Nat, EnvIs K f H (wipe σ vs) (wipeD ρ vs)
  | [] => e
  | v :: vs => by
    have ih := EnvIs.wipe e vs
    refine ⟨by simp only [L2.wipe, wipeD]; simp [ih.len], fun i d h => ?_⟩
    unfold wipeD at h
    simp only [L2.wipe]
    by_cases hj : v = i
    · subst hj
      by_cases hl : v < (wipeD ρ vs).length
      · rw [List.getElem?_set_self hl] at h; cases h
      · rw [List.getElem?_eq_none (by simpa using hl)] at h; cases h
    · rw [List.getElem?_set_ne hj] at h ⊢
      exact ih.get i d h
end
section
variable (tb : Tb) (tabs : List Addr) (k : Nat) (T : Nat → List D → Sto → Res D) (CX : CXT) (XI : XIT)
/-- the expression x does what m says -/
def OkE (XQ : XQT) (X : Cx) (x : Expr) (m : Env → Sto → Res D) : Prop :=
  ∃ t, PE X x t ∧ ∀ f S H σ ρ Q, Rl X.K tabs f S H → EnvIs X.K f H σ ρ → PostD X.K tabs f H (m ρ S) Q XQ → t σ H Q
abbrev relB : List Addr → Hp → Bool → Bool → Prop := fun _ _ a b => a = b
abbrev relO : List Addr → Hp → Option Int → Option Int → Prop := fun _ _ a b => a = b
def OkT (XQ : XQT) (X : Cx) (x : Expr) (m : Env → Sto → Res Bool) : Prop :=
  ∃ t, PT X x t ∧ ∀ f S H σ ρ Q, Rl X.K tabs f S H → EnvIs X.K f H σ ρ → Post X.K tabs relB f H (m ρ S) Q XQ → t σ H Q
def OkW (XQ : XQT) (X : Cx) (x : Expr) (m : Env → Sto → Res Bool) : Prop :=
  ∃ t, PW X x t ∧ ∀ f S H σ ρ Q, Rl X.K tabs f S H → EnvIs X.K f H σ ρ → Post X.K tabs relB f H (m ρ S) Q XQ → t σ H Q
def OkA (XQ : XQT) (X : Cx) (x : List Expr) (m : Env → Sto → Res (List D)) : Prop :=
  ∃ t, PA X x t ∧ ∀ f S H σ ρ Q, Rl X.K tabs f S H → EnvIs X.K f H σ ρ → PostL X.K tabs f H (m ρ S) Q XQ → t σ H Q
def OkO (XQ : XQT) (X : Cx) (x : Option Expr) (m : Env → Sto → Res (Option Int)) : Prop :=
  ∃ t, PO X x t ∧ ∀ f S H σ ρ Q, Rl X.K tabs f S H → EnvIs X.K f H σ ρ → Post X.K tabs relO f H (m ρ S) Q XQ → t σ H Q
def OkC (XQ : XQT) (X : Cx) (x : List Expr) (m : Env → Sto → Res Bool) : Prop :=
  ∃ t, PTs X x t ∧ ∀ f S H σ ρ Q, Rl X.K tabs f S H → EnvIs X.K f H σ ρ → Post X.K tabs relB f H (m ρ S) Q XQ → t σ H Q
end
section
variable {tb : Tb} {tabs : List Addr} {k m : Nat} {T : Nat → List D → Sto → Res D} {CX : CXT} {XI : XIT} {G : Gx} {XQ : XQT} {X : Cx}
variable {a b c : Expr} {ma mb mc : Env → Sto → Res D} {na nb nc : Env → Sto → Res Bool} {pos : Pos}
theorem Rl.room (g : Good tb tabs k m T CX XI G XQ X) : X.A.units + 200 < cLine := by have := g.room.un; omega
theorem pt_never {x : Expr} : PT X x (fun _ _ _ => False) := ⟨fun _ _ _ _ _ _ h => h.elim⟩
theorem okT_bad {x : Expr} : OkT tabs XQ X x (fun _ _ => .bad) := ⟨_, pt_never, fun _ _ _ _ _ _ _ _ h => h⟩
theorem okE_var {i : Nat} {x : Str} (h1 : X.N[i]? = some x) (h2 : Vis X.env.scope x) (h3 : (x == ("__debug__" : Str)) = false) (h4 : (x == ("__classdict__" : Str)) = false) : OkE tabs XQ X (.Name x pos) (fun ρ S => Res.of (ρ[i]?.join) S) := by
  refine ⟨_, pe_var h1 h2 h3 h4, fun f S H σ ρ Q R e h => ?_⟩
  obtain ⟨d, e1, h⟩ := Post.of h
  have e2 : ρ[i]? = some (some d) := by
    cases q : ρ[i]? with
    | none => rw [q] at e1; cases e1
    | some o => rw [q] at e1; cases o with
      | none => cases e1
      | some d' => cases e1; rfl
  obtain ⟨v, h5, h6⟩ := e.get i d e2
  exact ⟨v, h5, h.ok R h6⟩
theorem okE_con {cc : C} {kc : Const} {j : Nat} (h : (match cc, kc with | .non, .none => true | .bl a, .bool b => a == b | .int a, .int b => a == b | .str a, .str b => decide (a = b) | _, _ => false) = true) : OkE tabs XQ X (.Constant kc j pos) (fun _ S => .ok cc.d S) := by
  cases cc <;> cases kc <;> first | cases h | skip
  · exact ⟨_, pe_non, fun f S H σ ρ Q R e q => q.ok R .non⟩
  · obtain rfl := beq_iff_eq.mp h
    exact ⟨_, pe_bl, fun f S H σ ρ Q R e q => q.ok R (.bl _)⟩
  · obtain rfl := beq_iff_eq.mp h
    exact ⟨_, pe_int, fun f S H σ ρ Q R e q => q.ok R (.int _)⟩
  · obtain rfl := of_decide_eq_true h
    exact ⟨_, pe_str, fun f S H σ ρ Q R e q => q.ok R (.str _)⟩
theorem okE_bin {op : Operator} (ha : OkE tabs XQ X a ma) (hb : OkE tabs XQ X b mb) : OkE tabs XQ X (.BinOp a op b pos) (fun ρ S => (ma ρ S).bind fun x S1 => (mb ρ S1).bind fun y S2 => binD op x y S2) := by
  obtain ⟨ta, pa, sa⟩ := ha
  obtain ⟨tb', pb, sb⟩ := hb
  obtain ⟨r, ho, so⟩ := opS_bin (X := X) (tabs := tabs) op
  refine ⟨_, pe_op ho pa pb, fun f S H σ ρ Q R e h => ?_⟩
  refine sa f S H σ ρ _ R e (h.bind fun x S1 f1 H1 v x1 R1 i1 h1 => ?_)
  refine sb f1 S1 H1 σ ρ _ R1 (e.ext R x1) (h1.bind fun y S2 f2 H2 u x2 R2 i2 h2 => ?_)
  exact so f2 S2 H2 v u x y Q XQ R2 (i1.ext R1 x2) i2 h2
theorem okE_neg (ha : OkE tabs XQ X a ma) : OkE tabs XQ X (.UnaryOp .USub a pos) (fun ρ S => (ma ρ S).bind fun x S1 => negD x S1) := by
  obtain ⟨ta, pa, sa⟩ := ha
  refine ⟨_, pe_un un_neg pa, fun f S H σ ρ Q R e h => ?_⟩
  refine sa f S H σ ρ _ R e (h.bind fun x S1 f1 H1 v x1 R1 i1 h1 => ?_)
  unfold negD at h1
  split at h1
  · cases i1
    exact ⟨_, rfl, h1.ok R1 (.int _)⟩
  · exact h1.elim
theorem okE_not (ha : OkE tabs XQ X a ma) : OkE tabs XQ X (.UnaryOp .Not a pos) (fun ρ S => (ma ρ S).bind fun x S1 => Res.of ((truB S1 x).map fun k => .bl (!k)) S1) := by
  obtain ⟨ta, pa, sa⟩ := ha
  refine ⟨_, pe_notT pa, fun f S H σ ρ Q R e h => ?_⟩
  refine sa f S H σ ρ _ R e (h.bind fun x S1 f1 H1 v x1 R1 i1 h1 => ?_)
  obtain ⟨d, e1, h1⟩ := Post.of h1
  obtain ⟨kk, e2, rfl⟩ := Option.map_eq_some_iff.mp e1
  exact ⟨kk, tru_of R1 i1 e2, h1.ok R1 (.bl _)⟩
theorem okT_not (ha : OkT tabs XQ X a na) : OkT tabs XQ X (.UnaryOp .Not a pos) (fun ρ S => (na ρ S).bind fun k S1 => .ok (!k) S1) := by
  obtain ⟨ta, pa, sa⟩ := ha
  refine ⟨_, pt_not pa, fun f S H σ ρ Q R e h => ?_⟩
  refine sa f S H σ ρ _ R e (h.bind fun x S1 f1 H1 v x1 R1 i1 h1 => ?_)
  subst i1
  exact h1.ok R1 rfl
theorem okE_and {rest : List Expr} (ha : OkE tabs XQ X a ma) (hb : OkE tabs XQ X (.BoolOp .And (b :: rest) pos) mb) :
    OkE tabs XQ X (.BoolOp .And (a :: b :: rest) pos) (fun ρ S => (ma ρ S).bind fun x S1 => (Res.of (truB S1 x) S1).bind fun k S2 => if k = true then mb ρ S2 else .ok x S2) := by
  obtain ⟨ta, pa, sa⟩ := ha
  obtain ⟨tb', pb, sb⟩ := hb
  refine ⟨_, pe_andT pa pb, fun f S H σ ρ Q R e h => ?_⟩
  refine sa f S H σ ρ _ R e (h.bind fun x S1 f1 H1 v x1 R1 i1 h1 => ?_)
  cases e1 : truB S1 x with
  | none => rw [e1] at h1; exact h1.elim
  | some kk =>
    rw [e1] at h1
    refine ⟨kk, tru_of R1 i1 e1, ?_⟩
    cases kk with
    | true => exact sb f1 S1 H1 σ ρ _ R1 (e.ext R x1) h1
    | false => exact h1.ok R1 i1
theorem okE_or {rest : List Expr} (ha : OkE tabs XQ X a ma) (hb : OkE tabs XQ X (.BoolOp .Or (b :: rest) pos) mb) :
    OkE tabs XQ X (.BoolOp .Or (a :: b :: rest) pos) (fun ρ S => (ma ρ S).bind fun x S1 => (Res.of (truB S1 x) S1).bind fun k S2 => if k = true then .ok x S2 else mb ρ S2) := by
  obtain ⟨ta, pa, sa⟩ := ha
  obtain ⟨tb', pb, sb⟩ := hb
  refine ⟨_, pe_orT pa pb, fun f S H σ ρ Q R e h => ?_⟩
  refine sa f S H σ ρ _ R e (h.bind fun x S1 f1 H1 v x1 R1 i1 h1 => ?_)
  cases e1 : truB S1 x with
  | none => rw [e1] at h1; exact h1.elim
  | some kk =>
    rw [e1] at h1
    refine ⟨kk, tru_of R1 i1 e1, ?_⟩
    cases kk with
    | true => exact h1.ok R1 i1
    | false => exact sb f1 S1 H1 σ ρ _ R1 (e.ext R x1) h1
theorem okE_one {op : BoolOp} (ha : OkE tabs XQ X a ma) : OkE tabs XQ X (.BoolOp op [a] pos) ma := by
  obtain ⟨ta, pa, sa⟩ := ha
  exact ⟨_, pe_one pa, sa⟩
theorem okW_and1 (ha : OkT tabs XQ X a na) : OkW tabs XQ X (.BoolOp .And [a] pos) na := by
  obtain ⟨ta, pa, sa⟩ := ha
  exact ⟨_, pw_and1 pa, sa⟩
theorem okW_or1 (ha : OkT tabs XQ X a na) : OkW tabs XQ X (.BoolOp .Or [a] pos) na := by
  obtain ⟨ta, pa, sa⟩ := ha
  exact ⟨_, pw_or1 pa, sa⟩
theorem OkW.t (h : OkW tabs XQ X a na) : OkT tabs XQ X a na := by
  obtain ⟨ta, pa, sa⟩ := h
  exact ⟨_, pa.pt, sa⟩
theorem okW_and {rest : List Expr} (ha : OkT tabs XQ X a na) (hb : OkW tabs XQ X (.BoolOp .And (b :: rest) pos) nb) :
    OkW tabs XQ X (.BoolOp .And (a :: b :: rest) pos) (fun ρ S => (na ρ S).bind fun k S1 => if k = true then nb ρ S1 else .ok false S1) := by
  obtain ⟨ta, pa, sa⟩ := ha
  obtain ⟨tb', pb, sb⟩ := hb
  refine ⟨_, pw_and pa pb, fun f S H σ ρ Q R e h => ?_⟩
  refine sa f S H σ ρ _ R e (h.bind fun x S1 f1 H1 v x1 R1 i1 h1 => ?_)
  subst i1
  cases v with
  | true => exact sb f1 S1 H1 σ ρ _ R1 (e.ext R x1) h1
  | false => exact h1.ok R1 rfl
theorem okW_or {rest : List Expr} (ha : OkT tabs XQ X a na) (hb : OkW tabs XQ X (.BoolOp .Or (b :: rest) pos) nb) :
    OkW tabs XQ X (.BoolOp .Or (a :: b :: rest) pos) (fun ρ S => (na ρ S).bind fun k S1 => if k = true then .ok true S1 else nb ρ S1) := by
  obtain ⟨ta, pa, sa⟩ := ha
  obtain ⟨tb', pb, sb⟩ := hb
  refine ⟨_, pw_or pa pb, fun f S H σ ρ Q R e h => ?_⟩
  refine sa f S H σ ρ _ R e (h.bind fun x S1 f1 H1 v x1 R1 i1 h1 => ?_)
  subst i1
  cases v with
  | true => exact h1.ok R1 rfl
  | false => exact sb f1 S1 H1 σ ρ _ R1 (e.ext R x1) h1
theorem okT_truth (ha : OkE tabs XQ X a ma) (h : ntst a = true) : OkT tabs XQ X a (fun ρ S => (ma ρ S).bind fun x S1 => Res.of (truB S1 x) S1) := by
  obtain ⟨ta, pa, sa⟩ := ha
  refine ⟨_, pt_truth pa (tst_of h), fun f S H σ ρ Q R e h => ?_⟩
  refine sa f S H σ ρ _ R e (h.bind fun x S1 f1 H1 v x1 R1 i1 h1 => ?_)
  obtain ⟨kk, e1, h1⟩ := Post.of h1
  exact ⟨kk, tru_of R1 i1 e1, h1.ok R1 rfl⟩
theorem okE_cmp {op : CmpOp} (hu : X.A.units + 200 < cLine) (hm : nset b = true) (ha : OkE tabs XQ X a ma) (hb : OkE tabs XQ X b mb) :
    OkE tabs XQ X (.Compare a [op] [b] pos) (fun ρ S => (ma ρ S).bind fun x S1 => (mb ρ S1).bind fun y S2 => Res.of ((cmpB op S2 x y).map .bl) S2) := by
  obtain ⟨ta, pa, sa⟩ := ha
  obtain ⟨tb', pb, sb⟩ := hb
  obtain ⟨r, ho, so⟩ := cmS (X := X) (tabs := tabs) hu op
  refine ⟨_, pe_cmpR ho pa pb (mark_of hm), fun f S H σ ρ Q R e h => ?_⟩
  refine sa f S H σ ρ _ R e (h.bind fun x S1 f1 H1 v x1 R1 i1 h1 => ?_)
  refine sb f1 S1 H1 σ ρ _ R1 (e.ext R x1) (h1.bind fun y S2 f2 H2 u x2 R2 i2 h2 => ?_)
  obtain ⟨d, e1, h2⟩ := Post.of h2
  obtain ⟨kk, e2, rfl⟩ := Option.map_eq_some_iff.mp e1
  exact so f2 S2 H2 v u x y kk Q R2 (i1.ext R1 x2) i2 e2 (h2.ok R2 (.bl _))
theorem okT_cmp {op : CmpOp} (hu : X.A.units + 200 < cLine) (hm : nset b = true) (ha : OkE tabs XQ X a ma) (hb : OkE tabs XQ X b mb) :
    OkT tabs XQ X (.Compare a [op] [b] pos) (fun ρ S => (ma ρ S).bind fun x S1 => (mb ρ S1).bind fun y S2 => Res.of (cmpB op S2 x y) S2) := by
  obtain ⟨ta, pa, sa⟩ := ha
  obtain ⟨tb', pb, sb⟩ := hb
  obtain ⟨r, ho, so⟩ := cmS (X := X) (tabs := tabs) hu op
  refine ⟨_, pt_cmpR ho pa pb (mark_of hm), fun f S H σ ρ Q R e h => ?_⟩
  refine sa f S H σ ρ _ R e (h.bind fun x S1 f1 H1 v x1 R1 i1 h1 => ?_)
  refine sb f1 S1 H1 σ ρ _ R1 (e.ext R x1) (h1.bind fun y S2 f2 H2 u x2 R2 i2 h2 => ?_)
  obtain ⟨kk, e1, h2⟩ := Post.of h2
  exact so f2 S2 H2 v u x y kk _ R2 (i1.ext R1 x2) i2 e1 ⟨kk, rfl, h2.ok R2 rfl⟩
theorem okE_cmp2 {op op' : CmpOp} (hu : X.A.units + 200 < cLine) (hm2 : nset c = true) (ha : OkE tabs XQ X a ma) (hb : OkE tabs XQ X b mb) (hc : OkE tabs XQ X c mc) :
    OkE tabs XQ X (.Compare a [op, op'] [b, c] pos) (fun ρ S => (ma ρ S).bind fun x S1 => (mb ρ S1).bind fun y S2 => (Res.of (cmpB op S2 x y) S2).bind fun k S3 =>
      if k = true then (mc ρ S3).bind fun z S4 => Res.of ((cmpB op' S4 y z).map .bl) S4 else .ok (.bl false) S3) := by
  obtain ⟨ta, pa, sa⟩ := ha
  obtain ⟨tb', pb, sb⟩ := hb
  obtain ⟨tc, pc, sc⟩ := hc
  obtain ⟨r, ho, so⟩ := cmS (X := X) (tabs := tabs) hu op
  obtain ⟨r', ho', so'⟩ := cmS (X := X) (tabs := tabs) hu op'
  refine ⟨_, pe_chain ho ho' pa pb pc (mark_of hm2), fun f S H σ ρ Q R e h => ?_⟩
  refine sa f S H σ ρ _ R e (h.bind fun x S1 f1 H1 v x1 R1 i1 h1 => ?_)
  refine sb f1 S1 H1 σ ρ _ R1 (e.ext R x1) (h1.bind fun y S2 f2 H2 u x2 R2 i2 h2 => ?_)
  cases e1 : cmpB op S2 x y with
  | none => rw [e1] at h2; exact h2.elim
  | some kk =>
    rw [e1] at h2
    refine so f2 S2 H2 v u x y kk _ R2 (i1.ext R1 x2) i2 e1 ⟨kk, rfl, ?_⟩
    cases kk with
    | false => exact h2.ok R2 (.bl _)
    | true =>
      refine sc f2 S2 H2 σ ρ _ R2 ((e.ext R x1).ext R1 x2) (Post.bind h2 fun z S3 f3 H3 w3 x3 R3 i3 h3 => ?_)
      obtain ⟨d, e2, h3⟩ := Post.of h3
      obtain ⟨k2, e3, rfl⟩ := Option.map_eq_some_iff.mp e2
      exact so' f3 S3 H3 u w3 y z k2 Q R3 (i2.ext R2 x3) i3 e3 (h3.ok R3 (.bl _))
theorem okT_cmp2 {op op' : CmpOp} (hu : X.A.units + 200 < cLine) (hm2 : nset c = true) (ha : OkE tabs XQ X a ma) (hb : OkE tabs XQ X b mb) (hc : OkE tabs XQ X c mc) :
    OkT tabs XQ X (.Compare a [op, op'] [b, c] pos) (fun ρ S => (ma ρ S).bind fun x S1 => (mb ρ S1).bind fun y S2 => (Res.of (cmpB op S2 x y) S2).bind fun k S3 =>
      if k = true then (mc ρ S3).bind fun z S4 => Res.of (cmpB op' S4 y z) S4 else .ok false S3) := by
  obtain ⟨ta, pa, sa⟩ := ha
  obtain ⟨tb', pb, sb⟩ := hb
  obtain ⟨tc, pc, sc⟩ := hc
  obtain ⟨r, ho, so⟩ := cmS (X := X) (tabs := tabs) hu op
  obtain ⟨r', ho', so'⟩ := cmS (X := X) (tabs := tabs) hu op'
  refine ⟨_, pt_chain ho ho' pa pb pc (mark_of hm2) , fun f S H σ ρ Q R e h => ?_⟩
  refine sa f S H σ ρ _ R e (h.bind fun x S1 f1 H1 v x1 R1 i1 h1 => ?_)
  refine sb f1 S1 H1 σ ρ _ R1 (e.ext R x1) (h1.bind fun y S2 f2 H2 u x2 R2 i2 h2 => ?_)
  cases e1 : cmpB op S2 x y with
  | none => rw [e1] at h2; exact h2.elim
  | some kk =>
    rw [e1] at h2
    refine so f2 S2 H2 v u x y kk _ R2 (i1.ext R1 x2) i2 e1 ⟨kk, rfl, ?_⟩
    cases kk with
    | false => exact ⟨false, rfl, h2.ok R2 rfl⟩
    | true =>
      refine sc f2 S2 H2 σ ρ _ R2 ((e.ext R x1).ext R1 x2) (Post.bind h2 fun z S3 f3 H3 w3 x3 R3 i3 h3 => ?_)
      obtain ⟨k2, e3, h3⟩ := Post.of h3
      exact so' f3 S3 H3 u w3 y z k2 _ R3 (i2.ext R2 x3) i3 e3 ⟨k2, rfl, h3.ok R3 rfl⟩
end
end Rv

set_option Elab.async false
set_option linter.all false
set_option maxRecDepth 100000
set_option maxHeartbeats 4000000
/-! RvF: expressions, second part: displays, places, calls, what is walked, comprehensions. -/
namespace Rv
open PySem PySem.Spec PyProof.Rows L2
section
variable {tb : Tb} {tabs : List Addr} {k m : Nat} {T : Nat → List D → Sto → Res D} {CX : CXT} {XI : XIT} {G : Gx} {XQ : XQT} {X : Cx}
variable {a b c : Expr} {es : List Expr} {ma mb mc : Env → Sto → Res D} {na nb nc : Env → Sto → Res Bool} {me : Env → Sto → Res (List D)} {pos : Pos}
theorem okE_ite (hc : OkT tabs XQ X c nc) (ha : OkE tabs XQ X a ma) (hb : OkE tabs XQ X b mb) : OkE tabs XQ X (.IfExp c a b pos) (fun ρ S => (nc ρ S).bind fun k S1 => if k = true then ma ρ S1 else mb ρ S1) := by
  obtain ⟨tc, pc, sc⟩ := hc
  obtain ⟨ta, pa, sa⟩ := ha
  obtain ⟨tb', pb, sb⟩ := hb
  refine ⟨_, pe_ifExp pc pa pb, fun f S H σ ρ Q R e h => ?_⟩
  refine sc f S H σ ρ _ R e (h.bind fun x S1 f1 H1 v x1 R1 i1 h1 => ?_)
  subst i1
  cases v with
  | true => exact sa f1 S1 H1 σ ρ _ R1 (e.ext R x1) h1
  | false => exact sb f1 S1 H1 σ ρ _ R1 (e.ext R x1) h1
theorem okA_nil : OkA tabs XQ X [] (fun _ S => .ok [] S) := ⟨_, pa_nil, fun f S H σ ρ Q R e h => h.ok R .nil⟩
theorem okA_cons (hs : nst a = true) (ha : OkE tabs XQ X a ma) (hes : OkA tabs XQ X es me) : OkA tabs XQ X (a :: es) (fun ρ S => (ma ρ S).bind fun x S1 => (me ρ S1).bind fun xs S2 => .ok (x :: xs) S2) := by
  obtain ⟨ta, pa, sa⟩ := ha
  obtain ⟨te, pe, se⟩ := hes
  refine ⟨_, pa_cons pa pe (star_cons hs), fun f S H σ ρ Q R e h => ?_⟩
  refine sa f S H σ ρ _ R e (h.bind fun x S1 f1 H1 v x1 R1 i1 h1 => ?_)
  refine se f1 S1 H1 σ ρ _ R1 (e.ext R x1) (h1.bind fun xs S2 f2 H2 vs x2 R2 i2 h2 => ?_)
  exact h2.ok R2 (.cons (i1.ext R1 x2) i2)
theorem okE_tup {j : Nat} (hes : OkA tabs XQ X es me) : OkE tabs XQ X (.Tuple es j pos) (fun ρ S => (me ρ S).bind fun xs S1 => if xs.length ≤ sizeLine then .ok (.tup xs) S1 else .bad) := by
  obtain ⟨te, pe, se⟩ := hes
  refine ⟨_, pe_tup pe, fun f S H σ ρ Q R e h => ?_⟩
  refine se f S H σ ρ _ R e (h.bind fun xs S1 f1 H1 vs x1 R1 i1 h1 => ?_)
  obtain ⟨hc, h1⟩ := post_if h1
  exact ⟨by rw [i1.length]; exact hc, fun p hp => h1 f1 _ _ (Ext.lay hp) (R1.lay hp) (.tup (SqT.of upd_same) (i1.ext R1 (Ext.lay hp)))⟩
theorem okE_lst (hes : OkA tabs XQ X es me) : OkE tabs XQ X (.List es pos) (fun ρ S => (me ρ S).bind fun xs S1 => if xs.length ≤ sizeLine then .ok (.ref S1.length) (S1 ++ [.lst xs]) else .bad) := by
  obtain ⟨te, pe, se⟩ := hes
  refine ⟨_, pe_lst pe, fun f S H σ ρ Q R e h => ?_⟩
  refine se f S H σ ρ _ R e (h.bind fun xs S1 f1 H1 vs x1 R1 i1 h1 => ?_)
  obtain ⟨hc, h1⟩ := post_if h1
  exact ⟨by rw [i1.length]; exact hc, fun p hp => h1 _ _ _ (Ext.new hp) (R1.new hp i1) (.new R1)⟩
theorem okE_idx (hs : nslc b = true) (ha : OkE tabs XQ X a ma) (hb : OkE tabs XQ X b mb) : OkE tabs XQ X (.Subscript a b pos) (fun ρ S => (ma ρ S).bind fun x S1 => (mb ρ S1).bind fun y S2 => Res.of (idxD S2 x y) S2) := by
  obtain ⟨ta, pa, sa⟩ := ha
  obtain ⟨tb', pb, sb⟩ := hb
  obtain ⟨r, ho, so⟩ := ixS (X := X) (tabs := tabs)
  refine ⟨_, pe_ix ho pa pb (ix_of hs), fun f S H σ ρ Q R e h => ?_⟩
  refine sa f S H σ ρ _ R e (h.bind fun x S1 f1 H1 v x1 R1 i1 h1 => ?_)
  refine sb f1 S1 H1 σ ρ _ R1 (e.ext R x1) (h1.bind fun y S2 f2 H2 u x2 R2 i2 h2 => ?_)
  obtain ⟨d, e1, h2⟩ := Post.of h2
  exact so f2 S2 H2 v u x y d Q R2 (i1.ext R1 x2) i2 e1 fun w iw => h2.ok R2 iw
theorem okO_none : OkO tabs XQ X none (fun _ S => .ok none S) := ⟨_, po_none, fun f S H σ ρ Q R e h => h.ok R rfl⟩
theorem okO_some (ha : OkE tabs XQ X a ma) : OkO tabs XQ X (some a) (fun ρ S => (ma ρ S).bind fun x S1 => match x with | .int i => .ok (some i) S1 | _ => .bad) := by
  obtain ⟨ta, pa, sa⟩ := ha
  refine ⟨_, po_some pa, fun f S H σ ρ Q R e h => ?_⟩
  refine sa f S H σ ρ _ R e (h.bind fun x S1 f1 H1 v x1 R1 i1 h1 => ?_)
  split at h1
  · cases i1
    exact ⟨_, rfl, h1.ok R1 rfl⟩
  · exact h1.elim
theorem okE_slc {lo hi : Option Expr} {p2 : Pos} {ml mh : Env → Sto → Res (Option Int)} (ha : OkE tabs XQ X a ma) (hl : OkO tabs XQ X lo ml) (hh : OkO tabs XQ X hi mh) :
    OkE tabs XQ X (.Subscript a (.Slice lo hi none p2) pos) (fun ρ S => (ma ρ S).bind fun x S1 => (ml ρ S1).bind fun l S2 => (mh ρ S2).bind fun h S3 => slcD x l h S3) := by
  obtain ⟨ta, pa, sa⟩ := ha
  obtain ⟨tl, pl, sl⟩ := hl
  obtain ⟨th, ph, sh⟩ := hh
  obtain ⟨r, ho, so⟩ := slS (X := X) (tabs := tabs)
  refine ⟨_, pe_slice ho pa pl ph, fun f S H σ ρ Q R e h => ?_⟩
  refine sa f S H σ ρ _ R e (h.bind fun x S1 f1 H1 v x1 R1 i1 h1 => ?_)
  refine sl f1 S1 H1 σ ρ _ R1 (e.ext R x1) (h1.bind fun l S2 f2 H2 l' x2 R2 i2 h2 => ?_)
  refine sh f2 S2 H2 σ ρ _ R2 ((e.ext R x1).ext R1 x2) (h2.bind fun u S3 f3 H3 u' x3 R3 i3 h3 => ?_)
  subst i2 i3
  exact so f3 S3 H3 v x l' u' Q XQ R3 ((i1.ext R1 x2).ext R2 x3) h3
/-- a call of a def -/
theorem okE_call {i : Nat} {x : Str} {p : Pos} (g : Good tb tabs k m T CX XI G XQ X) (hf : tb.fns[i]? = some x) (hg : Gl X x) (hd : (x == ("__debug__" : Str)) = false) (hes : OkA tabs XQ X es me) (hn : es.all nst = true) (hne : es ≠ []) :
    OkE tabs XQ X (.Call (.Name x p) es [] pos) (fun ρ S => (me ρ S).bind fun xs S1 => T i xs S1) := by
  obtain ⟨te, pe, se⟩ := hes
  obtain ⟨fa, fd, ps, hm, hk, hb, F⟩ := g.gl.fn i x hf
  obtain ⟨E, hE, hX⟩ := g.pas
  have sound : ∀ (f : List Addr) (S : Sto) (H : Hp) (vs : List V) (xs : List D) (Q : VK), Rl X.K tabs f S H → IsL X.K f H vs xs → PostD X.K tabs f H (T i xs S) Q XQ → spF X.K tabs XI (T i) (vs ++ []) H Q E := by
    intro f S H vs xs Q R t h
    refine ⟨f, S, xs, R, by simpa using t, ?_⟩
    cases q : T i xs S with
    | ok d S' => rw [q] at h; exact h
    | exc x S' => rw [q] at h; exact fun f' H' y R' c d hx => hX x S' f' H' (h f' H' y R') c d hx
    | bad => rw [q] at h; exact h
  cases es with
  | nil => exact absurd rfl hne
  | cons e0 es0 =>
    rw [List.all_cons, Bool.and_eq_true] at hn
    refine ⟨_, pe_call F (g.room.mono (Nat.le_add_right k m)) hg hm hk hb .nil hE pe hd (star_cons hn.1) (star_any hn.2), fun f S H σ ρ Q R e h => ?_⟩
    exact se f S H σ ρ _ R e (h.bind fun xs S1 f1 H1 vs x1 R1 i1 h1 => sound f1 S1 H1 vs xs Q R1 i1 h1)
theorem okE_call0 {i : Nat} {x : Str} {p : Pos} (g : Good tb tabs k m T CX XI G XQ X) (hf : tb.fns[i]? = some x) (hg : Gl X x) (hd : (x == ("__debug__" : Str)) = false) :
    OkE tabs XQ X (.Call (.Name x p) [] [] pos) (fun ρ S => T i [] S) := by
  obtain ⟨fa, fd, ps, hm, hk, hb, F⟩ := g.gl.fn i x hf
  obtain ⟨E, hE, hX⟩ := g.pas
  refine ⟨_, pe_call0 F (g.room.mono (Nat.le_add_right k m)) hg hm hk hb .nil hE hd, fun f S H σ ρ Q R e h => ?_⟩
  refine ⟨f, S, [], R, .nil, ?_⟩
  dsimp only at h
  cases q : T i [] S with
  | ok d S' => rw [q] at h; exact h
  | exc x S' => rw [q] at h; exact fun f' H' y R' c d hx => hX x S' f' H' (h f' H' y R') c d hx
  | bad => rw [q] at h; exact h
/-- a built-in function or type called -/
theorem okE_blt {bb : B} {p : Pos} (hg : Gl X bb.nm) (hm : X.mg bb.nm = none) (hes : OkA tabs XQ X es me) (hn : es.all nst = true) (hne : es ≠ []) :
    OkE tabs XQ X (.Call (.Name bb.nm p) es [] pos) (fun ρ S => (me ρ S).bind fun xs S1 => bltD bb xs S1) := by
  obtain ⟨te, pe, se⟩ := hes
  obtain ⟨r, hc, hr⟩ := clS_blt (X := X) (tabs := tabs) bb
  cases es with
  | nil => exact absurd rfl hne
  | cons e0 es0 =>
    rw [List.all_cons, Bool.and_eq_true] at hn
    have fin : ∀ f S H σ ρ Q, Rl X.K tabs f S H → EnvIs X.K f H σ ρ → PostD X.K tabs f H ((me ρ S).bind fun xs S1 => bltD bb xs S1) Q XQ → tCB r te σ H Q := fun f S H σ ρ Q R e h =>
      se f S H σ ρ _ R e (h.bind fun xs S1 f1 H1 vs x1 R1 i1 h1 => hr f1 S1 H1 vs xs Q XQ R1 i1 h1)
    have bt := bb.boot
    cases bb with
    | len => exact ⟨_, pe_callB hc hg hm bt pe (B.nname .len) (B.ndeb .len) (star_cons hn.1) (star_any hn.2), fin⟩
    | abs => exact ⟨_, pe_callB hc hg hm bt pe (B.nname .abs) (B.ndeb .abs) (star_cons hn.1) (star_any hn.2), fin⟩
    | isi => exact ⟨_, pe_callB hc hg hm bt pe (B.nname .isi) (B.ndeb .isi) (star_cons hn.1) (star_any hn.2), fin⟩
    | int => exact ⟨_, pe_callTy hc hg hm bt pe (B.nname .int) (B.ndeb .int) (star_cons hn.1) (star_any hn.2), fin⟩
    | str => exact ⟨_, pe_callTy hc hg hm bt pe (B.nname .str) (B.ndeb .str) (star_cons hn.1) (star_any hn.2), fin⟩
    | tuple => exact ⟨_, pe_callTy hc hg hm bt pe (B.nname .tuple) (B.ndeb .tuple) (star_cons hn.1) (star_any hn.2), fin⟩
    | list => exact ⟨_, pe_callTy hc hg hm bt pe (B.nname .list) (B.ndeb .list) (star_cons hn.1) (star_any hn.2), fin⟩
/-- a method of a built-in type -/
theorem okE_mth {m : Mt} {apos : Pos} (hb : nsup a = true) (hl : (apos.endLine == pos.line) = true) (ha : OkE tabs XQ X a ma) (hes : OkA tabs XQ X es me) (hn : es.all nst = true) (hne : es ≠ []) (hlen : es.length < 30) :
    OkE tabs XQ X (.Call (.Attribute a m.nm apos) es [] pos) (fun ρ S => (ma ρ S).bind fun x S1 => if mtB m x S1 = true then (me ρ S1).bind fun xs S2 => mthD m x xs S2 else .bad) := by
  obtain ⟨ta, pa, sa⟩ := ha
  obtain ⟨te, pe, se⟩ := hes
  obtain ⟨r, hc, hr⟩ := mtS (X := X) (tabs := tabs) m
  cases es with
  | nil => exact absurd rfl hne
  | cons e0 es0 =>
    have hn' := hn
    rw [List.all_cons, Bool.and_eq_true] at hn
    refine ⟨_, pe_bm m.plain m.slot m.typ hc pa pe (base_of hb) ?_ hl (star_cons hn.1) (star_any hn.2), fun f S H σ ρ Q R e h => ?_⟩
    · rw [star_all hn']
      show (true && true && decide ((e0 :: es0).length + 0 + 0 < 30)) = true
      rw [decide_eq_true (by simpa using hlen)]; rfl
    · refine sa f S H σ ρ _ R e (h.bind fun x S1 f1 H1 v x1 R1 i1 h1 => ?_)
      obtain ⟨hc, h1⟩ := post_if h1
      exact ⟨mt_ty m R1 i1 hc, se f1 S1 H1 σ ρ _ R1 (e.ext R x1) (h1.bind fun xs S2 f2 H2 vs x2 R2 i2 h2 => hr f2 S2 H2 v x vs xs Q XQ R2 (i1.ext R1 x2) i2 h2)⟩

/-! ### what is walked -/
/-- J walks the items xs, in any heap that has come of f, H and in which the list g stands -/
structure WkJ (K : PySem.W.Frag) (tabs f : List Addr) (H : Hp) (xs : List D) (g : Gd) (J : It) : Prop where
  go : ∀ (i : Nat) (x : D) f' S' H', Ext tabs f H f' H' → Rl K tabs f' S' H' → g.ok S' = true → xs[i]? = some x → J.go i H' ∧ ∀ v H'', J.yld i H' v H'' → ∃ f'', Ext tabs f' H' f'' H'' ∧ Rl K tabs f'' S' H'' ∧ Is K f'' H'' v x
  stop : ∀ (i : Nat) f' S' H', Ext tabs f H f' H' → Rl K tabs f' S' H' → g.ok S' = true → xs.length ≤ i → J.stop i H'
def relI (K : PySem.W.Frag) (tabs : List Addr) : List Addr → Hp → It → List D × Gd → Prop := fun f H J w => WkJ K tabs f H w.1 w.2 J
def OkI (tabs : List Addr) (XQ : XQT) (X : Cx) (tg x : Expr) (m : Env → Sto → Res (List D × Gd)) : Prop :=
  ∃ wi, PI X tg x wi ∧ ∀ f S H σ ρ R, Rl X.K tabs f S H → EnvIs X.K f H σ ρ → Post X.K tabs (relI X.K tabs) f H (m ρ S) R XQ → wi σ H R
theorem PI.or {tg x : Expr} {w1 w2 : TI} (h1 : PI X tg x w1) (h2 : PI X tg x w2) : PI X tg x (fun σ H R => w1 σ H R ∨ w2 σ H R) := ⟨fun pins s σ H R I h => h.elim (h1.run pins s σ H R I) (h2.run pins s σ H R I)⟩
theorem wk_range {K : PySem.W.Frag} {f : List Addr} {H : Hp} (lo : Int) (n : Nat) : WkJ K tabs f H ((List.range n).map fun (j : Nat) => D.int (lo + j)) none (Itr lo n) := by
  refine ⟨fun i x f' S' H' _ R _ hx => ?_, fun i f' S' H' _ R _ hi => ?_⟩
  · rw [List.getElem?_map] at hx
    obtain ⟨j, e1, e2⟩ := Option.map_eq_some_iff.mp hx
    obtain ⟨hlt, e3⟩ := List.getElem?_eq_some_iff.mp e1
    have hlt' : i < n := by simpa using hlt
    have e4 : i = j := by simpa using e3
    subst e4 e2
    exact ⟨hlt', fun v H'' hy => by
      obtain ⟨rfl, rfl⟩ := hy
      exact ⟨f', Ext.refl, R, .int _⟩⟩
  · have : n ≤ i := by simpa using hi
    exact this
theorem wk_tup {K : PySem.W.Frag} {f : List Addr} {S : Sto} {H : Hp} {a : Addr} {vs : List V} {xs : List D} (R0 : Rl K tabs f S H) (h : SqT K H a vs) (t : IsL K f H vs xs) (inj : True) : WkJ K tabs f H xs none (Itt K a) := by
  refine ⟨fun i x f' S' H' e R _ hx => ?_, fun i f' S' H' e R _ hi => ?_⟩
  · have hq := SqT.ext R0 e h
    obtain ⟨v, hv, iv⟩ := t.getD hx
    refine ⟨⟨vs, v, hq, hv⟩, fun w H'' hy => ?_⟩
    obtain ⟨rfl, hy⟩ := hy
    have e2 := hy vs hq
    rw [hv] at e2; cases e2
    exact ⟨f', Ext.refl, R, iv.ext R0 e⟩
  · exact ⟨vs, SqT.ext R0 e h, by rw [t.length]; exact hi⟩
theorem wk_frl {K : PySem.W.Frag} {f : List Addr} {S : Sto} {H : Hp} {a : Addr} {vs : List V} {xs : List D} (R0 : Rl K tabs f S H) (h : SqF K H a vs) (t : IsL K f H vs xs) : WkJ K tabs f H xs none (Itl K a) := by
  refine ⟨fun i x f' S' H' e R _ hx => ?_, fun i f' S' H' e R _ hi => ?_⟩
  · have hq := (h.ext R0 e).seq
    obtain ⟨v, hv, iv⟩ := t.getD hx
    refine ⟨⟨vs, v, hq, hv⟩, fun w H'' hy => ?_⟩
    obtain ⟨rfl, hy⟩ := hy
    have e2 := hy vs hq
    rw [hv] at e2; cases e2
    exact ⟨f', Ext.refl, R, iv.ext R0 e⟩
  · exact ⟨vs, (h.ext R0 e).seq, by rw [t.length]; exact hi⟩
theorem wk_lst {K : PySem.W.Frag} {f : List Addr} {H : Hp} {a : Addr} {n : Nat} {xs : List D} (ha : f[n]? = some a) : WkJ K tabs f H xs (some (n, xs)) (Itl K a) := by
  refine ⟨fun i x f' S' H' e R hg hx => ?_, fun i f' S' H' e R hg hi => ?_⟩
  · have e1 : S'[n]? = some (.lst xs) := of_decide_eq_true hg
    obtain ⟨vs, h1, t⟩ := R.lst e1 (e.get ha)
    obtain ⟨v, hv, iv⟩ := t.getD hx
    refine ⟨⟨vs, v, .inl (.inl h1), hv⟩, fun w H'' hy => ?_⟩
    obtain ⟨rfl, hy⟩ := hy
    have e2 := hy vs (.inl (.inl h1))
    rw [hv] at e2; cases e2
    exact ⟨f', Ext.refl, R, iv⟩
  · have e1 : S'[n]? = some (.lst xs) := of_decide_eq_true hg
    obtain ⟨vs, h1, t⟩ := R.lst e1 (e.get ha)
    exact ⟨vs, .inl (.inl h1), by rw [t.length]; exact hi⟩
theorem wk_str {K : PySem.W.Frag} {f : List Addr} {H : Hp} (z : Str) : WkJ K tabs f H (signsD z) none (Its z) := by
  refine ⟨fun i x f' S' H' _ R _ hx => ?_, fun i f' S' H' _ R _ hi => ?_⟩
  · unfold signsD at hx
    rw [List.getElem?_map, Array.getElem?_toList] at hx
    obtain ⟨c, e1, e2⟩ := Option.map_eq_some_iff.mp hx
    subst e2
    exact ⟨(Array.getElem?_eq_some_iff.mp e1).1, fun v H'' hy => by
      obtain ⟨rfl, c', e3, rfl⟩ := hy
      rw [e1] at e3
      cases e3
      exact ⟨f', Ext.refl, R, .str _⟩⟩
  · have : z.cps.size ≤ i := by simpa [signsD] using hi
    exact this
theorem okI_seq {tg : Expr} (ha : OkE tabs XQ X a ma) : OkI tabs XQ X tg a (fun ρ S => (ma ρ S).bind fun x S1 => match x with
      | .tup xs => .ok (xs, none) S1
      | .frl xs => .ok (xs, none) S1
      | .str z => .ok (signsD z, none) S1
      | .ref n => match S1[n]? with
        | some (.lst xs) => .ok (xs, some (n, xs)) S1
        | _ => .bad
      | _ => .bad) := by
  obtain ⟨ta, pa, sa⟩ := ha
  refine ⟨_, PI.or (pi_list pa) (PI.or (pi_tup pa) (pi_str pa)), fun f S H σ ρ Q R e h => ?_⟩
  dsimp only at h
  cases q : ma ρ S with
  | exc x S1 =>
    rw [q] at h
    exact .inl (sa f S H σ ρ _ R e (by rw [q]; exact h))
  | bad => rw [q] at h; exact h.elim
  | ok x S1 =>
    rw [q] at h
    cases x with
    | str z =>
      refine .inr (.inr (sa f S H σ ρ _ R e ?_))
      rw [q]
      intro f1 H1 v x1 R1 i1
      cases i1 with
      | str => exact ⟨_, rfl, h f1 H1 _ x1 R1 (wk_str z)⟩
    | tup xs =>
      refine .inr (.inl (sa f S H σ ρ _ R e ?_))
      rw [q]
      intro f1 H1 v x1 R1 i1
      cases i1 with
      | tup hq t => exact ⟨_, rfl, ⟨_, hq⟩, h f1 H1 _ x1 R1 (wk_tup R1 hq t trivial)⟩
    | frl xs =>
      refine .inl (sa f S H σ ρ _ R e ?_)
      rw [q]
      intro f1 H1 v x1 R1 i1
      cases i1 with
      | frl hq t => exact ⟨_, rfl, ⟨_, hq.seq⟩, h f1 H1 _ x1 R1 (wk_frl R1 hq t)⟩
    | ref n =>
      refine .inl (sa f S H σ ρ _ R e ?_)
      rw [q]
      intro f1 H1 v x1 R1 i1
      cases i1 with
      | ref ha =>
        simp only [Res.bind_ok] at h
        cases e1 : S1[n]? with
        | none => rw [e1] at h; exact h.elim
        | some o =>
          cases o with
          | lst xs =>
            rw [e1] at h
            obtain ⟨vs, h1, t⟩ := R1.lst e1 ha
            exact ⟨_, rfl, ⟨vs, .inl (.inl h1)⟩, h f1 H1 _ x1 R1 (wk_lst ha)⟩
    | _ => exact h.elim
theorem big62 {i : Int} (h1 : -1000000 ≤ i) (h2 : i ≤ 1000000) : -(2 ^ 62) ≤ i ∧ i < 2 ^ 62 := by omega
theorem okI_range1 {tg : Expr} {p : Pos} (hg : Gl X "range") (hm : X.mg "range" = none) (hs : nst a = true) (ha : OkE tabs XQ X a ma) : OkI tabs XQ X tg (.Call (.Name "range" p) [a] [] pos) (fun ρ S => (ma ρ S).bind fun x S1 => match x with
      | .int j => if -1000000 ≤ j ∧ j ≤ 1000000 then .ok ((List.range j.toNat).map fun (k : Nat) => D.int k, none) S1 else .bad
      | _ => .bad) := by
  obtain ⟨te, pe, se⟩ := okA_cons hs ha okA_nil
  refine ⟨_, pi_range1 hg hm pe (by rw [star_cons hs]; rfl) , fun f S H σ ρ Q R e h => ?_⟩
  refine se f S H σ ρ _ R e ?_
  dsimp only at h ⊢
  cases q : ma ρ S with
  | exc x S1 => rw [q] at h; exact h
  | bad => rw [q] at h; exact h.elim
  | ok x S1 =>
    rw [q] at h
    intro f1 H1 v x1 R1 i1
    obtain ⟨w, rfl, iw⟩ := isL1 i1
    simp only [Res.bind_ok] at h
    split at h
    · obtain ⟨hc, h⟩ := post_if h
      cases iw
      refine ⟨_, rfl, by omega, by omega, h f1 H1 _ x1 R1 ?_⟩
      rename_i j _
      have z := wk_range (tabs := tabs) (K := X.K) (f := f1) (H := H1) 0 j.toNat
      simpa [relI] using z
    · exact h.elim
theorem okI_range2 {tg : Expr} {p : Pos} (hg : Gl X "range") (hm : X.mg "range" = none) (hs : nst a = true) (hs2 : nst b = true) (ha : OkE tabs XQ X a ma) (hb : OkE tabs XQ X b mb) : OkI tabs XQ X tg (.Call (.Name "range" p) [a, b] [] pos) (fun ρ S => (ma ρ S).bind fun x S1 => (mb ρ S1).bind fun y S2 => match x, y with
      | .int i, .int j => if -1000000 ≤ i ∧ i ≤ 1000000 ∧ -1000000 ≤ j ∧ j ≤ 1000000 then .ok ((List.range (j - i).toNat).map fun (k : Nat) => D.int (i + k), none) S2 else .bad
      | _, _ => .bad) := by
  obtain ⟨te, pe, se⟩ := okA_cons hs ha (okA_cons hs2 hb okA_nil)
  refine ⟨_, pi_range2 hg hm pe (by rw [star_cons hs, star_cons hs2]; rfl) (by rw [star_cons hs2]; rfl), fun f S H σ ρ Q R e h => ?_⟩
  refine se f S H σ ρ _ R e ?_
  dsimp only at h ⊢
  cases q : ma ρ S with
  | exc x S1 => rw [q] at h; exact h
  | bad => rw [q] at h; exact h.elim
  | ok x S1 =>
    rw [q] at h
    simp only [Res.bind_ok] at h ⊢
    cases q2 : mb ρ S1 with
    | exc x2 S2 => rw [q2] at h; exact h
    | bad => rw [q2] at h; exact h.elim
    | ok y S2 =>
      rw [q2] at h
      intro f1 H1 v x1 R1 i1
      obtain ⟨w, u, rfl, iw, iu⟩ := isL2 i1
      simp only [Res.bind_ok] at h
      split at h
      · obtain ⟨hc, h⟩ := post_if h
        cases iw
        cases iu
        exact ⟨_, _, rfl, by omega, h f1 H1 _ x1 R1 (wk_range _ _)⟩
      · exact h.elim
end
end Rv

set_option Elab.async false
set_option linter.all false
set_option maxRecDepth 100000
set_option maxHeartbeats 4000000
/-! RvG: targets, blocks, list comprehensions. -/
namespace Rv
open PySem PySem.Spec PyProof.Rows L2
section
variable {K : PySem.W.Frag} {tabs f f' f'' f1 : List Addr} {S S' : Sto} {H H' H1 : Hp} {a p Dd : Addr} {v : V} {d : D} {vs zs : List V} {ds : List D} {o : HO}
mutual
/-- an object of the heap that is no cell, no tuple, no frozen list may change -/
theorem Is.side (hD : H Dd = some (.lst zs)) (hf : Dd ∉ f) : ∀ {v : V} {d : D}, Is K f H v d → Is K f (upd H Dd o) v d
  | _, _, .non => .non
  | _, _, .bl b => .bl b
  | _, _, .int i => .int i
  | _, _, .str z => .str z
  | _, _, .ty n => .ty n
  | _, _, .tup h t => .tup (by
      rcases h with (h | ⟨ob, h⟩) | h
      · exact .inl (.inl (by rw [upd_ne (ne_of h hD (by simp))]; exact h))
      · exact .inl (.inr ⟨ob, by rw [upd_ne (ne_of h hD (by simp))]; exact h⟩)
      · exact .inr h) (IsL.side hD hf t)
  | _, _, .ref h => .ref h
  | _, _, .frl h t => .frl (by
      rcases h with ⟨ob, h⟩ | h
      · exact .inl ⟨ob, by rw [upd_ne (ne_of h hD (by simp))]; exact h⟩
      · exact .inr h) (IsL.side hD hf t)
theorem IsL.side (hD : H Dd = some (.lst zs)) (hf : Dd ∉ f) : ∀ {vs : List V} {ds : List D}, IsL K f H vs ds → IsL K f (upd H Dd o) vs ds
  | _, _, .nil => .nil
  | _, _, .cons h t => .cons (Is.side hD hf h) (IsL.side hD hf t)
end
theorem Rl.side (R : Rl K tabs f S H) (hD : H Dd = some (.lst zs)) (hf : Dd ∉ f) : Rl K tabs f S (upd H Dd o) := by
  refine ⟨R.len, R.nd, fun n u b h1 h2 => ?_, fun P hP => ?_⟩
  · have q := R.cell n u b h1 h2
    have nb : b ≠ Dd := fun e => hf (by rw [← e]; exact List.mem_of_getElem? h2)
    cases u with
    | lst es =>
      obtain ⟨ws, h3, t⟩ := q
      exact ⟨ws, by rw [upd_ne nb]; exact h3, t.side hD hf⟩
  · obtain ⟨ps, q1, q2⟩ := R.tab P hP
    exact ⟨ps, by rw [upd_ne (ne_of q1 hD (by simp))]; exact q1, q2⟩
theorem Ext.side (x : Ext tabs f1 H1 f H) (h1 : H1 Dd = none) : Ext tabs f1 H1 f (upd H Dd o) := by
  refine ⟨x.pre, fun b u h h2 h3 => ?_, fun b h => ?_⟩
  · rw [upd_ne (ne_of_none h h1)]
    exact x.keep b u h h2 h3
  · by_cases e : b = Dd
    · rw [e, upd_same]; simp
    · rw [upd_ne e]; exact x.stay b h
theorem EnvIs.side {σ : L2.St} {ρ : Env} (e : EnvIs K f H σ ρ) (hD : H Dd = some (.lst zs)) (hf : Dd ∉ f) : EnvIs K f (upd H Dd o) σ ρ :=
  ⟨e.len, fun i d h => let ⟨v, h1, h2⟩ := e.get i d h; ⟨v, h1, h2.side hD hf⟩⟩
/-- behind a step the list on the side stands as it stood -/
theorem Ext.sideK (R : Rl K tabs f S H) (x : Ext tabs f H f' H') (hD : H Dd = some (.lst zs)) (hf : Dd ∉ f) : H' Dd = some (.lst zs) ∧ Dd ∉ f' := by
  refine ⟨x.keep Dd _ hD hf (fun z => ?_), fun z => ?_⟩
  · obtain ⟨ps, q1, _⟩ := R.tab Dd z
    rw [hD] at q1; cases q1
  · obtain ⟨g, rfl, hg⟩ := x.pre
    rcases List.mem_append.mp z with z | z
    · exact hf z
    · rw [hg Dd z] at hD; cases hD
end

/-! ### targets -/
def slotsP : P → List Nat
  | .nm i => [i]
  | .tp ps => slotsP ps
  | .nil => []
  | .cons p ps => slotsP p ++ slotsP ps
theorem wipe_set {σ : L2.St} {i : Nat} {v : Option V} : ∀ {vs : List Nat}, i ∈ vs → wipe (σ.set i v) vs = wipe σ vs
  | [], h => by cases h
  | w :: vs, h => by
    simp only [wipe]
    by_cases hi : i ∈ vs
    · rw [wipe_set hi]
    · have e : i = w := by
        rcases List.mem_cons.mp h with h | h
        · exact h
        · exact absurd h hi
      subst e
      have key : ∀ (ws : List Nat), i ∉ ws → (wipe (σ.set i v) ws) = (wipe σ ws).set i v := by
        intro ws
        induction ws with
        | nil => intro _; rfl
        | cons u us ih =>
          intro hu
          simp only [List.mem_cons, not_or] at hu
          simp only [wipe]
          rw [ih hu.2, List.set_comm _ _ (Ne.symm hu.1)]
      rw [key vs hi, List.set_set]
def isRow : P → Bool
  | .nil => true
  | .cons _ _ => true
  | _ => false
def chkP (G : Gx) : P → List Expr → Bool
  | .nm i, [.Name x _] => decide (G.N[i]? = some x) && decide (x ∈ G.st)
  | .tp ps, [.Tuple es _ _] => es.all nst && (isRow ps && chkP G ps es)
  | .nil, [] => true
  | .cons p ps, e :: es => nst e && (!isRow p && (isRow ps && (chkP G p [e] && chkP G ps es)))
  | _, _ => false
def rowLen : P → Nat
  | .cons _ ps => rowLen ps + 1
  | _ => 0
theorem row_bind : ∀ (p : P) (ds : List D) (ρ ρ' : Env), isRow p = true → (∀ q, p = .cons q q → True) → bindP p ds ρ = some ρ' → (match p with | .nil => ds = [] | .cons _ ps => ∃ d ds' ρ1, ds = d :: ds' ∧ bindP ps ds' ρ1 = some ρ' | _ => True)
  | .nil, ds, ρ, ρ', _, _, h => by
    cases ds with
    | nil => rfl
    | cons _ _ => cases h
  | .cons p ps, ds, ρ, ρ', _, _, h => by
    cases ds with
    | nil => cases h
    | cons d ds' =>
      simp only [bindP] at h
      obtain ⟨ρ1, _, h2⟩ := Option.bind_eq_some_iff.mp h
      exact ⟨d, ds', ρ1, rfl, h2⟩
  | .nm _, _, _, _, z, _, _ => nomatch z
  | .tp _, _, _, _, z, _, _ => nomatch z
theorem row_len {G : Gx} : ∀ (p : P) (es : List Expr) (ds : List D) (ρ ρ' : Env), isRow p = true → chkP G p es = true → bindP p ds ρ = some ρ' → ds.length = es.length
  | .nil, es, ds, ρ, ρ', _, hc, h => by
    have h1 := row_bind .nil ds ρ ρ' rfl (fun _ z => nomatch z) h
    simp only at h1
    subst h1
    cases es with
    | nil => rfl
    | cons _ _ => exact nomatch (show false = true from hc)
  | .cons p ps, es, ds, ρ, ρ', _, hc, h => by
    have h1 := row_bind (.cons p ps) ds ρ ρ' rfl (fun _ _ => trivial) h
    simp only at h1
    obtain ⟨d, ds', ρ1, rfl, h2⟩ := h1
    cases es with
    | nil => exact nomatch (show false = true from hc)
    | cons e es =>
      have hc : (nst e && (!isRow p && (isRow ps && (chkP G p [e] && chkP G ps es)))) = true := hc
      simp only [Bool.and_eq_true] at hc
      rw [List.length_cons, List.length_cons, row_len ps es ds' ρ1 ρ' hc.2.2.1 hc.2.2.2.2 h2]
  | .nm _, _, _, _, _, z, _, _ => nomatch z
  | .tp _, _, _, _, _, z, _, _ => nomatch z
section
variable {tb : Tb} {tabs : List Addr} {k m : Nat} {T : Nat → List D → Sto → Res D} {CX : CXT} {XI : XIT} {G : Gx} {XQ : XQT} {X : Cx}
def OkP (tabs : List Addr) (X : Cx) (tg : Expr) (p : P) : Prop :=
  ∃ g, PG X tg g ∧ ∀ f S H σ ρ v d ρ' Q, Rl X.K tabs f S H → EnvIs X.K f H σ ρ → Is X.K f H v d → bindP p [d] ρ = some ρ' →
    (∀ σ', EnvIs X.K f H σ' ρ' → (∀ vs, (∀ i ∈ slotsP p, i ∈ vs) → wipe σ' vs = wipe σ vs) → Q σ' H) → g v σ H Q
def OkPs (tabs : List Addr) (X : Cx) (tgs : List Expr) (p : P) : Prop :=
  ∃ g, PGs X tgs g ∧ ∀ f S H σ ρ vs ds ρ' Q, Rl X.K tabs f S H → EnvIs X.K f H σ ρ → IsL X.K f H vs ds → bindP p ds ρ = some ρ' →
    (∀ σ', EnvIs X.K f H σ' ρ' → (∀ vs, (∀ i ∈ slotsP p, i ∈ vs) → wipe σ' vs = wipe σ vs) → Q σ' H) → g vs σ H Q
theorem asgs_cons {e : Expr} {es : List Expr} {env : PySem.Env} (h : nst e = true) : (assignEach (e :: es) env).map (·.2) = assign e env :: (assignEach es env).map (·.2) := by
  cases e <;> first | rfl | cases h
theorem okP (g : Good tb tabs k m T CX XI G XQ X) : ∀ p : P, (isRow p = false → ∀ tg, chkP G p [tg] = true → OkP tabs X tg p) ∧ (isRow p = true → ∀ tgs, chkP G p tgs = true → OkPs tabs X tgs p) := by
  intro p
  induction p with
  | nm i =>
    refine ⟨fun _ tg h => ?_, fun z => nomatch z⟩
    cases tg with
    | Name x pos =>
      have h : (decide (G.N[i]? = some x) && decide (x ∈ G.st)) = true := h
      rw [Bool.and_eq_true] at h
      have h1 := of_decide_eq_true h.1
      have h2 := g.st x (of_decide_eq_true h.2)
      refine ⟨_, pg_name (i := i) (by rw [g.N]; exact g.nd) (by rw [g.N]; exact h1) (by rw [g.sc]; exact h2.1) (by rw [g.sc]; exact h2.2), fun f S H σ ρ v d ρ' Q R e iv hb q => ?_⟩
      cases hb
      exact q _ (e.set i iv) fun vs hv => wipe_set (hv i (by simp [slotsP]))
    | _ => exact nomatch (show false = true from h)
  | tp ps ih =>
    refine ⟨fun _ tg h => ?_, fun z => nomatch z⟩
    cases tg with
    | Tuple es j pos =>
      have h : (es.all nst && (isRow ps && chkP G ps es)) = true := h
      simp only [Bool.and_eq_true] at h
      obtain ⟨gg, pg, sg⟩ := ih.2 h.2.1 es h.2.2
      refine ⟨_, pg_tup g.calm pg asg_len (asg_none h.1), fun f S H σ ρ v d ρ' Q R e iv hb q => ?_⟩
      cases iv with
      | tup hq t =>
        have hb : bindP ps _ ρ = some ρ' := hb
        exact ⟨_, _, rfl, hq, by rw [t.length]; exact row_len ps es _ ρ ρ' h.2.1 h.2.2 hb, sg f S H σ ρ _ _ ρ' Q R e t hb q⟩
      | _ => cases hb
    | _ => exact nomatch (show false = true from h)
  | nil =>
    refine ⟨fun z => (nomatch z), fun _ tgs h => ?_⟩
    cases tgs with
    | nil =>
      refine ⟨_, pgs_nil, fun f S H σ ρ vs ds ρ' Q R e t hb q => ?_⟩
      cases t with
      | nil => cases hb; exact ⟨rfl, q _ e fun _ _ => rfl⟩
      | cons _ _ => cases hb
    | cons _ _ => exact nomatch (show false = true from h)
  | cons p ps ih1 ih2 =>
    refine ⟨fun z => (nomatch z), fun _ tgs h => ?_⟩
    cases tgs with
    | nil => exact nomatch (show false = true from h)
    | cons e0 es0 =>
      have h : (nst e0 && (!isRow p && (isRow ps && (chkP G p [e0] && chkP G ps es0)))) = true := h
      simp only [Bool.and_eq_true] at h
      obtain ⟨g1, pg1, sg1⟩ := ih1.1 (by simpa using h.2.1) e0 h.2.2.2.1
      obtain ⟨g2, pg2, sg2⟩ := ih2.2 h.2.2.1 es0 h.2.2.2.2
      refine ⟨_, pgs_cons pg1 pg2 (asgs_cons h.1), fun f S H σ ρ vs ds ρ' Q R e t hb q => ?_⟩
      cases t with
      | nil => cases hb
      | cons iv t =>
        simp only [bindP] at hb
        obtain ⟨ρ1, h1, h2⟩ := Option.bind_eq_some_iff.mp hb
        refine ⟨_, _, rfl, sg1 f S H σ ρ _ _ ρ1 _ R e iv h1 fun σ1 e1 w1 => ?_⟩
        refine sg2 f S H σ1 ρ1 _ _ ρ' Q R e1 t h2 fun σ2 e2 w2 => q σ2 e2 fun us hu => ?_
        rw [w2 us fun i hi => hu i (by simp [slotsP, hi]), w1 us fun i hi => hu i (by simp [slotsP, hi])]

/-! ### blocks -/
def ownP (N : List Str) (own : List Nat) : List (Str × Nat) := own.map fun i => (N.getD i default, i)
theorem ownP_snd (N : List Str) (own : List Nat) : (ownP N own).map (·.2) = own := by
  unfold ownP
  rw [List.map_map]
  exact List.map_id' own
def blkSt (N : List Str) (own : List Nat) : List Str := own.map fun i => N.getD i default
def blkG (G : Gx) (scope : Scope) (own : List Nat) : Gx := ⟨G.N, relS scope G.sc, blkSt G.N own⟩
def blkB (G : Gx) (scope : Scope) (own : List Nat) : Bool :=
  blkC G.N G.sc scope (ownP G.N own) && (blkSt G.N own).all fun x => decide ((relS scope G.sc).names.lookup x = some .local) || (decide ((relS scope G.sc).names.lookup x = some .cell) && decide (scope.names.lookup x = some .cell))
abbrev XQ0 : XQT := fun _ _ _ _ => False
theorem good_blk (g : Good tb tabs k m T CX XI G XQ X) {scope : Scope} {own : List Nat} (hb : blkB G scope own = true) (s : Shared) (H : Hp) (C : Addr) (cl : List (Str × Addr)) (fp : List Addr) :
    Good tb tabs k m T CX XI (blkG G scope own) XQ0 (X.blk s H scope (compEnvC scope cl C X.env) fp) := by
  unfold blkB at hb
  rw [Bool.and_eq_true] at hb
  refine ⟨g.N, g.nd, ?_, fun x hx => ?_, g.calm, g.room, g.cd, PassesOwn.never, g.gl, E0, fun _ _ _ _ _ _ _ h => (g.gl.cx0 _ _ _ _ _ h).elim, fun _ _ _ _ z => z.elim⟩
  · show relS scope X.env.scope = relS scope G.sc
    rw [g.sc]
  · have h1 := List.all_eq_true.mp hb.2 x hx
    rw [Bool.or_eq_true, Bool.and_eq_true, decide_eq_true_eq, decide_eq_true_eq, decide_eq_true_eq] at h1
    rcases h1 with h1 | ⟨h1, h2⟩
    · exact ⟨.inl h1, .inr h1⟩
    · refine ⟨.inr h1, .inl ?_⟩
      show (scope.names.lookup x == some NameKind.cell) = true
      rw [h2]; rfl
end
end Rv

set_option Elab.async false
set_option linter.all false
set_option maxRecDepth 100000
set_option maxHeartbeats 4000000
/-! RvH: readings that hang on no context; list comprehensions. -/
namespace Rv
open PySem PySem.Spec PyProof.Rows L2
def canE (K : PySem.W.Frag) (tabs : List Addr) (XQ : XQT) (m : Env → Sto → Res D) : TE := fun σ H Q => ∃ f S ρ, Rl K tabs f S H ∧ EnvIs K f H σ ρ ∧ PostD K tabs f H (m ρ S) Q XQ
def canC (K : PySem.W.Frag) (tabs : List Addr) (XQ : XQT) (m : Env → Sto → Res Bool) : TT := fun σ H Q => ∃ f S ρ, Rl K tabs f S H ∧ EnvIs K f H σ ρ ∧ Post K tabs relB f H (m ρ S) Q XQ
def canP (K : PySem.W.Frag) (tabs : List Addr) (p : P) : TG := fun v σ H Q => ∃ f S ρ d ρ', Rl K tabs f S H ∧ EnvIs K f H σ ρ ∧ Is K f H v d ∧ bindP p [d] ρ = some ρ' ∧
  (∀ σ', EnvIs K f H σ' ρ' → (∀ vs, (∀ i ∈ slotsP p, i ∈ vs) → wipe σ' vs = wipe σ vs) → Q σ' H)
section
variable {tb : Tb} {tabs : List Addr} {k m : Nat} {T : Nat → List D → Sto → Res D} {CX : CXT} {XI : XIT} {G : Gx} {XQ : XQT} {X : Cx}
theorem OkE.can {x : Expr} {m : Env → Sto → Res D} (h : OkE tabs XQ X x m) : PE X x (canE X.K tabs XQ m) := by
  obtain ⟨t, pe, s⟩ := h
  exact ⟨fun pins st σ H Q I ⟨f, S, ρ, R, e, q⟩ => pe.run pins st σ H Q I (s f S H σ ρ Q R e q)⟩
theorem OkC.can {x : List Expr} {m : Env → Sto → Res Bool} (h : OkC tabs XQ X x m) : PTs X x (canC X.K tabs XQ m) := by
  obtain ⟨t, pe, s⟩ := h
  exact ⟨fun pins st σ H Q I ⟨f, S, ρ, R, e, q⟩ => pe.run pins st σ H Q I (s f S H σ ρ Q R e q)⟩
theorem OkP.can {x : Expr} {p : P} (h : OkP tabs X x p) : PG X x (canP X.K tabs p) := by
  obtain ⟨t, pe, s⟩ := h
  exact ⟨fun pins st σ H v u Q I r ⟨f, S, ρ, d, ρ', R, e, iv, hb, q⟩ => pe.run pins st σ H v u Q I r (s f S H σ ρ v d ρ' Q R e iv hb q)⟩
/-- [elt for tg in iter if ..] -/
abbrev lcStep (p : P) (own : List Nat) (mc : Env → Sto → Res Bool) (me : Env → Sto → Res D) (ρ : Env) : D → Sto → Res (Option D) := fun d S2 =>
  Res.hard ((Res.of (bindP p [d] (wipeD ρ own)) S2).bind fun ρ' S3 => (mc ρ' S3).bind fun k S4 => if k = true then (me ρ' S4).bind fun y S5 => .ok (some y) S5 else .ok none S4)
theorem hard_post {α β : Type} {K : PySem.W.Frag} {f : List Addr} {H : Hp} {rel : List Addr → Hp → β → α → Prop} {r : Res α} {Q : β → Hp → Prop} {XQ : XQT} (h : Post K tabs rel f H (Res.hard r) Q XQ) : Post K tabs rel f H r Q XQ0 := by
  cases r with
  | ok d S => exact h
  | exc _ _ => exact h.elim
  | bad => exact h
theorem hard_ok {α : Type} {r : Res α} {a : α} {S : Sto} (h : Res.hard r = .ok a S) : r = .ok a S := by
  cases r with
  | ok d S => exact h
  | exc _ _ => cases h
  | bad => cases h
theorem comp_len {g : Gd} {step : D → Sto → Res (Option D)} : ∀ {xs : List D} {S S' : Sto} {ys : List D}, compL g step xs S = .ok ys S' → ys.length ≤ xs.length
  | [], S, S', ys, h => by
    unfold compL at h
    split at h
    · cases h; exact Nat.le_refl _
    · cases h
  | x :: xs, S, S', ys, h => by
    unfold compL at h
    split at h
    · cases q : step x S with
      | ok o S1 =>
        rw [q] at h
        simp only [Res.bind_ok] at h
        cases q2 : compL g step xs S1 with
        | ok zs S2 =>
          rw [q2] at h
          simp only [Res.bind_ok] at h
          cases h
          have := comp_len q2
          cases o <;> simp <;> omega
        | exc _ _ => rw [q2] at h; cases h
        | bad => rw [q2] at h; cases h
      | exc _ _ => rw [q] at h; cases h
      | bad => rw [q] at h; cases h
    · cases h
theorem compL_hard {g : Gd} {p : P} {own : List Nat} {mc : Env → Sto → Res Bool} {me : Env → Sto → Res D} {ρ : Env} : ∀ (xs : List D) (S : Sto) (x : D) (S' : Sto), compL g (lcStep p own mc me ρ) xs S ≠ .exc x S'
  | [], S, x, S', h => by
    unfold compL at h
    split at h <;> cases h
  | y :: ys, S, x, S', h => by
    unfold compL at h
    split at h
    · cases q : lcStep p own mc me ρ y S with
      | ok o S1 =>
        rw [q] at h
        simp only [Res.bind_ok] at h
        cases q2 : compL g (lcStep p own mc me ρ) ys S1 with
        | ok zs S2 => rw [q2] at h; cases h
        | exc _ _ => exact compL_hard ys S1 _ _ q2
        | bad => rw [q2] at h; cases h
      | exc z S1 =>
        unfold lcStep at q
        cases q3 : ((Res.of (bindP p [y] (wipeD ρ own)) S).bind fun ρ' S3 => (mc ρ' S3).bind fun k S4 => if k = true then (me ρ' S4).bind fun y S5 => Res.ok (some y) S5 else .ok none S4) with
        | ok _ _ => rw [q3] at q; cases q
        | exc _ _ => rw [q3] at q; cases q
        | bad => rw [q3] at q; cases q
      | bad => rw [q] at h; cases h
    · cases h

theorem okE_lc {elt tg iter : Expr} {ifs : List Expr} {scope : Scope} {own : List Nat} {p : P} {pos : Pos} {mi : Env → Sto → Res (List D × Gd)} {mc : Env → Sto → Res Bool} {me : Env → Sto → Res D}
    (g : Good tb tabs k m T CX XI G XQ X) (hb : blkB G scope own = true) (hp : ∀ i ∈ slotsP p, i ∈ own) (hs : nset iter = true) (hI : OkI tabs XQ X tg iter mi)
    (hP : ∀ (s : Shared) (H : Hp) (C : Addr) (cl : List (Str × Addr)) (fp : List Addr), OkP tabs (X.blk s H scope (compEnvC scope cl C X.env) fp) tg p)
    (hC : ∀ (s : Shared) (H : Hp) (C : Addr) (cl : List (Str × Addr)) (fp : List Addr), OkC tabs XQ0 (X.blk s H scope (compEnvC scope cl C X.env) fp) ifs mc)
    (hE : ∀ (s : Shared) (H : Hp) (C : Addr) (cl : List (Str × Addr)) (fp : List Addr), OkE tabs XQ0 (X.blk s H scope (compEnvC scope cl C X.env) fp) elt me) :
    ∃ wi, PI X tg iter wi ∧ (∀ (s : Shared) (H : Hp) (C : Addr) (cl : List (Str × Addr)) (fp : List Addr), PG (X.blk s H scope (compEnvC scope cl C X.env) fp) tg (canP X.K tabs p)) ∧
      (∀ (s : Shared) (H : Hp) (C : Addr) (cl : List (Str × Addr)) (fp : List Addr), PTs (X.blk s H scope (compEnvC scope cl C X.env) fp) ifs (canC X.K tabs XQ0 mc)) ∧
      (∀ (s : Shared) (H : Hp) (C : Addr) (cl : List (Str × Addr)) (fp : List Addr), PE (X.blk s H scope (compEnvC scope cl C X.env) fp) elt (canE X.K tabs XQ0 me)) ∧
      ∀ f S H σ ρ Q, Rl X.K tabs f S H → EnvIs X.K f H σ ρ → PostD X.K tabs f H ((mi ρ S).bind fun w S1 => (compL w.2 (lcStep p own mc me ρ) w.1 S1).bind fun ys S2 => if ys.length ≤ sizeLine then .ok (.ref S2.length) (S2 ++ [.lst ys]) else .bad) Q XQ →
        tLc wi (canP X.K tabs p) (canC X.K tabs XQ0 mc) (canE X.K tabs XQ0 me) own σ H Q := by
  obtain ⟨wi, pi, si⟩ := hI
  refine ⟨wi, pi, fun s H C cl fp => (hP s H C cl fp).can, fun s H C cl fp => (hC s H C cl fp).can, fun s H C cl fp => (hE s H C cl fp).can, fun f S H σ ρ Q R e h => ?_⟩
  refine si f S H σ ρ _ R e (h.bind fun w S1 f1 H1 J x1 R1 wk h1 => ?_)
  obtain ⟨xs, gd⟩ := w
  intro Dd hD
  -- the loop's word: what is left to do does what is wanted
  refine ⟨fun i m Hc => m = xs.length - i ∧ i ≤ xs.length ∧ ∃ f' S' accV accD, Ext tabs f1 H1 f' Hc ∧ Rl X.K tabs f' S' Hc ∧ Hc Dd = some (.lst accV) ∧ Dd ∉ f' ∧ IsL X.K f' Hc accV accD ∧ accD.length ≤ i ∧
      ∃ ys S2, compL gd (lcStep p own mc me ρ) (xs.drop i) S' = .ok ys S2 ∧ (accD ++ ys).length ≤ sizeLine ∧ ∀ f2 H2 v, Ext tabs f1 H1 f2 H2 → Rl X.K tabs f2 (S2 ++ [.lst (accD ++ ys)]) H2 → Is X.K f2 H2 v (.ref S2.length) → Q v H2, ?_, ?_⟩
  · -- the start
    have nf : Dd ∉ f1 := fun z => by
      obtain ⟨n, o, _, _, q⟩ := R1.cellAt z
      exact q.ne_none hD
    cases q : compL gd (lcStep p own mc me ρ) xs S1 with
    | exc x S2 => exact absurd q (compL_hard _ _ _ _)
    | bad => rw [q] at h1; exact h1.elim
    | ok ys S2 =>
      rw [q] at h1
      simp only [Res.bind_ok] at h1
      obtain ⟨hc, h1⟩ := post_if h1
      exact ⟨_, rfl, Nat.zero_le _, f1, S1, [], [], Ext.lay hD, R1.lay hD, upd_same, nf, .nil, Nat.le_refl _, ys, S2, by rw [List.drop_zero]; exact q, by simpa using hc, fun f2 H2 v y R2 i2 => h1 f2 H2 v y (by simpa using R2) i2⟩
  · rintro i m Hc ⟨rfl, hi, f', S', accV, accD, xx, R', hL, nf, tacc, hal, ys, S2, q, hc, fin⟩
    by_cases hlt : i < xs.length
    · -- a turn
      right
      have ed : xs.drop i = xs[i] :: xs.drop (i + 1) := List.drop_eq_getElem_cons hlt
      rw [ed] at q
      unfold compL at q
      split at q
      case isFalse => cases q
      rename_i hg
      have gx : xs[i]? = some xs[i] := List.getElem?_eq_getElem hlt
      obtain ⟨go, yl⟩ := wk.go i xs[i] f' S' Hc xx R' hg gx
      refine ⟨go, fun H' => ∃ f' S' accV accD, Ext tabs f1 H1 f' H' ∧ Rl X.K tabs f' S' H' ∧ H' Dd = some (.lst accV) ∧ Dd ∉ f' ∧ IsL X.K f' H' accV accD ∧ accD.length ≤ i + 1 ∧
        ∃ ys S2, compL gd (lcStep p own mc me ρ) (xs.drop (i + 1)) S' = .ok ys S2 ∧ (accD ++ ys).length ≤ sizeLine ∧ ∀ f2 H2 v, Ext tabs f1 H1 f2 H2 → Rl X.K tabs f2 (S2 ++ [.lst (accD ++ ys)]) H2 → Is X.K f2 H2 v (.ref S2.length) → Q v H2,
        fun H' hN => ⟨_, by omega, rfl, hlt, hN⟩, fun v H' hy => ?_⟩
      obtain ⟨f3, x3, R3, iv⟩ := yl v H' hy
      obtain ⟨hL3, nf3⟩ := Ext.sideK R' x3 hL nf
      have xx3 := xx.trans x3
      have t3 := tacc.ext R' x3
      -- the turn's step
      cases q1 : lcStep p own mc me ρ xs[i] S' with
      | exc _ _ => rw [q1] at q; cases q
      | bad => rw [q1] at q; cases q
      | ok o S4 =>
        rw [q1] at q
        simp only [Res.bind_ok] at q
        cases q2 : compL gd (lcStep p own mc me ρ) (xs.drop (i + 1)) S4 with
        | exc _ _ => rw [q2] at q; cases q
        | bad => rw [q2] at q; cases q
        | ok zs S5 =>
          rw [q2] at q
          simp only [Res.bind_ok] at q
          obtain ⟨rfl, rfl⟩ : o.toList ++ zs = ys ∧ S5 = S2 := by cases q; exact ⟨rfl, rfl⟩
          have q1 := hard_ok q1
          cases qb : bindP p [xs[i]] (wipeD ρ own) with
          | none => rw [qb] at q1; cases q1
          | some ρ' =>
            rw [qb] at q1
            simp only [Res.of_some, Res.bind_ok] at q1
            have e3 : EnvIs X.K f3 H' (wipe σ own) (wipeD ρ own) := ((e.ext R x1).ext R1 xx3).wipe own
            refine ⟨f3, S', wipeD ρ own, xs[i], ρ', R3, e3, iv, qb, fun σ2 e2 w2 => ⟨?_, ?_⟩⟩
            · rw [w2 own hp]
              have : ∀ (vs : List Nat) (τ : L2.St), (∀ j ∈ vs, j ∈ own) → wipe (wipe τ own) vs = wipe τ own := by
                intro vs
                induction vs with
                | nil => intro τ _; rfl
                | cons u us ih =>
                  intro τ hu
                  simp only [wipe]
                  rw [ih τ fun j hj => hu j (List.mem_cons_of_mem _ hj)]
                  have hm := hu u List.mem_cons_self
                  have key : ∀ (ws : List Nat), u ∈ ws → (wipe τ ws).set u none = wipe τ ws := by
                    intro ws
                    induction ws with
                    | nil => intro z; cases z
                    | cons a as ih2 =>
                      intro z
                      simp only [wipe]
                      by_cases ha : a = u
                      · subst ha; rw [List.set_set]
                      · rcases List.mem_cons.mp z with z | z
                        · exact absurd z.symm ha
                        · rw [List.set_comm _ _ ha, ih2 z]
                  exact key own hm
              exact this own σ fun j hj => hj
            · refine ⟨f3, S', ρ', R3, e2, ?_⟩
              cases qc : mc ρ' S' with
              | exc _ _ => rw [qc] at q1; cases q1
              | bad => rw [qc] at q1; cases q1
              | ok kb S6 =>
                rw [qc] at q1
                simp only [Res.bind_ok] at q1
                intro f6 H6 b x6 R6 eb
                subst eb
                obtain ⟨hL6, nf6⟩ := Ext.sideK R3 x6 hL3 nf3
                cases b with
                | false =>
                  simp only [Bool.false_eq_true, if_false] at q1 ⊢
                  obtain ⟨rfl, rfl⟩ : none = o ∧ S6 = S4 := by cases q1; exact ⟨rfl, rfl⟩
                  exact ⟨f6, S6, accV, accD, xx3.trans x6, R6, hL6, nf6, t3.ext R3 x6, by omega, zs, S5, q2, by simpa using hc, by simpa using fin⟩
                | true =>
                  simp only [if_true] at q1 ⊢
                  refine ⟨f6, S6, ρ', R6, e2.ext R3 x6, ?_⟩
                  cases qe : me ρ' S6 with
                  | exc _ _ => rw [qe] at q1; cases q1
                  | bad => rw [qe] at q1; cases q1
                  | ok y S7 =>
                    rw [qe] at q1
                    simp only [Res.bind_ok] at q1
                    obtain ⟨rfl, rfl⟩ : some y = o ∧ S7 = S4 := by cases q1; exact ⟨rfl, rfl⟩
                    intro f7 H7 u x7 R7 iu
                    obtain ⟨hL7, nf7⟩ := Ext.sideK R6 x7 hL6 nf6
                    have t7 := (t3.ext R3 x6).ext R6 x7
                    have hc2 : (accD ++ y :: zs).length ≤ sizeLine := by simpa using hc
                    refine ⟨accV, hL7, by rw [t7.length]; rw [List.length_append, List.length_cons] at hc2; omega, f7, S7, accV ++ [u], accD ++ [y], ((xx3.trans x6).trans x7).side hD, R7.side hL7 nf7, upd_same, nf7,
                      (t7.append (IsL.one iu)).side hL7 nf7, by rw [List.length_append, List.length_singleton]; omega, zs, S5, q2, by simpa using hc2, by simpa using fin⟩
    · -- the end
      left
      have ei : i = xs.length := by omega
      subst ei
      rw [List.drop_length] at q
      unfold compL at q
      split at q
      case isFalse => cases q
      rename_i hg
      obtain ⟨rfl, rfl⟩ : [] = ys ∧ S' = S2 := by cases q; exact ⟨rfl, rfl⟩
      refine ⟨wk.stop _ f' S' Hc xx R' hg (Nat.le_refl _), ?_⟩
      -- the new list becomes a cell
      have R'' : Rl X.K tabs (f' ++ [Dd]) (S' ++ [.lst (accD ++ [])]) Hc := by
        have Hu : upd Hc Dd (.lst accV) = Hc := by
          funext b
          unfold upd
          by_cases hb : b = Dd
          · rw [if_pos hb, hb, hL]
          · rw [if_neg hb]
        refine ⟨by simp [R'.len], ?_, fun n u b h1 h2 => ?_, R'.tab⟩
        · rw [List.nodup_append]
          exact ⟨R'.nd, by simp, fun a ha b hb => by
            have : b = Dd := by simpa using hb
            subst this
            exact fun e => nf (e ▸ ha)⟩
        · have xs1 : Ext tabs f' Hc (f' ++ [Dd]) Hc → True := fun _ => trivial
          have mono : ∀ {v : V} {d : D}, Is X.K f' Hc v d → Is X.K (f' ++ [Dd]) Hc v d := fun {v d} i => Is.more [Dd] i
          by_cases hn : n < S'.length
          · rw [List.getElem?_append_left hn] at h1
            rw [List.getElem?_append_left (by rw [R'.len]; exact hn)] at h2
            have q := R'.cell n u b h1 h2
            cases u with
            | lst es =>
              obtain ⟨ws, h3, t⟩ := q
              exact ⟨ws, h3, IsL.more [Dd] t⟩
          · have en : n = S'.length := by
              have := (List.getElem?_eq_some_iff.mp h1).1
              rw [List.length_append, List.length_singleton] at this
              omega
            subst en
            rw [List.getElem?_append_right (Nat.le_refl _), Nat.sub_self] at h1
            rw [List.getElem?_append_right (by rw [R'.len]; exact Nat.le_refl _), R'.len, Nat.sub_self] at h2
            obtain rfl : O.lst (accD ++ []) = u := by simpa using h1
            obtain rfl : Dd = b := by simpa using h2
            exact ⟨accV, hL, by rw [List.append_nil]; exact IsL.more [Dd] tacc⟩
      refine fin (f' ++ [Dd]) Hc (.ref Dd) ⟨?_, xx.keep, xx.stay⟩ R'' (.new R')
      obtain ⟨gg, rfl, hg2⟩ := xx.pre
      refine ⟨gg ++ [Dd], by simp, fun a ha => ?_⟩
      rcases List.mem_append.mp ha with ha | ha
      · exact hg2 a ha
      · have : a = Dd := by simpa using ha
        rw [this]; exact hD
end
end Rv

set_option Elab.async false
set_option linter.all false
set_option maxRecDepth 100000
set_option maxHeartbeats 4000000
/-! RvI: generator expressions: the generator's own frame, its code as a protocol. -/
namespace Rv
open PySem PySem.Spec PyProof.Rows L2

/-- what holds around the code of a generator expression that is woken in A -/
def gA (A : Around) (env : PySem.Env) : Around := ⟨A.handled, A.depth + 1, A.frames.map (env :: ·), A.guards, A.units + 3⟩
theorem over_genLoop {A : Around} {elt : Expr} {gs : List Comprehension} {scope : Scope} {pos : Pos} {it acc : Value} {env : PySem.Env} :
    A.over (.compLoop (.GeneratorExp elt gs scope pos) 0 it acc env) [] = gA A env := by
  cases h : A.frames <;> simp [Around.over, gA, marksOver, frameCount, unitsOf, envsOf, guardsOf, pushEnvs, pushGuards, Code.envs, Code.env?, Code.isFrame, Code.guards, Code.isGuard, Code.weight, Code.frames, Code.isCreation, Code.isCaller, Code.cUnits, h]
theorem over_genStart {A : Around} {elt : Expr} {gs : List Comprehension} {scope : Scope} {pos : Pos} {it acc : Value} {env : PySem.Env} :
    A.over (.compStart (.GeneratorExp elt gs scope pos) 0 it acc env) [] = gA A env := by
  cases h : A.frames <;> simp [Around.over, gA, marksOver, frameCount, unitsOf, envsOf, guardsOf, pushEnvs, pushGuards, Code.envs, Code.env?, Code.isFrame, Code.guards, Code.isGuard, Code.weight, Code.frames, Code.isCreation, Code.isCaller, Code.cUnits, h]
/-- the generator's frame as a context: s, H the state ahead of it, a the generator -/
def gCx (X : Cx) (s : Shared) (H : Hp) (cenv : PySem.Env) (fp : List Addr) (a : Addr) (ob : Obj) : Cx :=
  { X with A := gA X.A.in1.in1 cenv, s_0 := s, H_0 := H, env := cenv, outer := X.stack, stack := cenv :: X.stack, ex := fp, fn := fun _ => false, pn := [(a, ob)], xe := fun _ _ => False }
/-- the names of a generator expression: as a block's, none a cell, the walked thing's -/
structure GenOk (N : List Str) (sc scope : Scope) (own : List (Str × Nat)) : Prop where
  blk : BlkOk N sc scope own
  co : scope.isCoroutine = false
  cell : ∀ y ∈ scope.names, y.2 ≠ .cell
  dot : scope.names.lookup (".0" : Str) = some NameKind.local
def genC (N : List Str) (sc scope : Scope) (own : List (Str × Nat)) : Bool :=
  blkC N sc scope own && (!scope.isCoroutine && ((scope.names.all fun y => decide (y.2 ≠ .cell)) && decide (scope.names.lookup (".0" : Str) = some NameKind.local)))
theorem genOk_by {N : List Str} {sc scope : Scope} {own : List (Str × Nat)} (h : genC N sc scope own = true) : GenOk N sc scope own := by
  unfold genC at h
  simp only [Bool.and_eq_true, List.all_eq_true, decide_eq_true_eq, Bool.not_eq_true'] at h
  exact ⟨blkOk_by h.1, h.2.1, h.2.2.1, h.2.2.2⟩
section
variable {X : Cx} {pins : List (Addr × Obj)} {σ : L2.St} {H : Hp} {s : Shared}
theorem clo_has {scope : Scope} {own : List (Str × Nat)} (I : Inv X pins σ H s) (ok : BlkOk X.N X.env.scope scope own) : ∀ y ∈ scope.names, y.2 = .free → ∃ c, X.env.cells.lookup y.1 = some c := fun y hy e => by
  rcases ok.free y hy e with z | z
  · exact I.ok.has _ (.inl z)
  · exact I.ok.has _ (.inr z)
/-- the state in which the generator has been made is one of its frame's -/
theorem gen_start {scope : Scope} {own : List (Str × Nat)} {fp : List Addr} {code : Value} {h' : Heap} {itv : Value} {ob : Obj} {gs : GenState} {tk : Nat} (I : Inv X pins σ H s) (ok : GenOk X.N X.env.scope scope own) (hN : X.N.Nodup)
    (hfp : ∀ b ∈ fp, FpOk X pins H b ∧ b < s.heap.objs.size) (hns : h'.Ns s.heap.objs.size (fun y => if y = (".0" : Str) then some itv else none))
    (hk : ∀ b o, s.heap.get? b = some o → h'.get? b = some o) (hsz : h'.objs.size = s.heap.objs.size + 1) (hob : (h'.push ob).get? h'.objs.size = some ob) (hobc : ∀ v, ob.data ≠ .cell v) (hb : gs.bare = true) :
    Inv (gCx X s H (genEnv scope (cloFrom X.env.cells scope.names []) s.heap.objs.size code builtinsNs X.env) fp h'.objs.size ob) [] (wipe σ (own.map (·.2))) H { s with gens := s.gens.push gs, toks := tk, heap := h'.push ob } := by
  have cfree := clo_has I ok.blk
  have kp : ∀ b o, s.heap.get? b = some o → (h'.push ob).get? b = some o := fun b o q => Heap.get?_push_of_some _ (hk b o q)
  -- the captured cells
  have cl : ∀ {y c}, (y, c) ∈ cloFrom X.env.cells scope.names [] → X.env.cells.lookup y = some c ∧ c < s.heap.objs.size ∧ (y, NameKind.free) ∈ scope.names := fun {y c} hm => by
    rcases cloFrom_mem hm with z | ⟨z, e⟩
    · exact absurd z (by simp)
    · obtain ⟨c', hc'⟩ := cfree _ z rfl
      rw [hc'] at e
      have e : c = c' := e
      subst e
      obtain ⟨u, q⟩ := I.cell _ _ hc'
      exact ⟨hc', q.lt, z⟩
  have lk : ∀ {y c}, (cloFrom X.env.cells scope.names []).lookup y = some c → X.env.cells.lookup y = some c ∧ c < s.heap.objs.size := fun q => ⟨(cl (PySem.mem_of_lookup q)).1, (cl (PySem.mem_of_lookup q)).2.1⟩
  have fr : ∀ {y}, scope.names.lookup y = some .free → ∃ c, (cloFrom X.env.cells scope.names []).lookup y = some c ∧ X.env.cells.lookup y = some c := fun {y} q => by
    obtain ⟨c, hc⟩ := mem_lookup (cloFrom_has (cells := X.env.cells) (acc := []) (PySem.mem_of_lookup q))
    exact ⟨c, hc, (lk hc).1⟩
  have nocell : ∀ y, scope.names.lookup y ≠ some .cell := fun y q => ok.cell _ (PySem.mem_of_lookup q) rfl
  refine ⟨⟨I.ok.mod, ok.blk.kind, I.ok.glob, rfl, Nat.le_refl _, fun y z c e1 e2 => I.ok.inj y z c (lk e1).1 (lk e2).1, fun y hy => ?_, fun y c z _ => (nomatch z), fun q => I.ok.hd q, ?_, .inr ⟨rfl, rfl⟩, fun b hb => ⟨Nat.ne_of_lt (hfp b hb).2, fun y c e => (hfp b hb).1.2.2.2.2.1 y c (lk e).1⟩,
      I.bs, Nat.le_trans I.ok.bsz I.sz, fun b o q hb => ?_, fun b hb z => ?_, I.stack, I.stkFree⟩, rfl, I.bare.push hb, Un.kept kp, ?_, fun y c e => ?_, I.hok.fresh (Nat.le_refl _), fun y c e => I.freeC y c (lk e).1, fun p hp => ?_, I.hok.kept kp, by rw [wipe_length]; exact I.len⟩
  · rcases hy with hy | hy
    · exact absurd hy (nocell y)
    · obtain ⟨c, hc, _⟩ := fr hy
      exact ⟨c, hc⟩
  · show X.A.frames.map _ = some _
    rw [I.ok.frames]; rfl
  · rcases (hfp b hb).1.2.2.2.1 with z | z
    · exact I.ok.noex b o q z
    · exact absurd (Nat.lt_of_lt_of_le (Heap.lt_size q) (Nat.le_trans I.ok.bsz z)) (Nat.lt_irrefl _)
  · rcases List.mem_cons.mp (I.stkSub b z) with z | z
    · exact (hfp b hb).1.2.1 z
    · exact (hfp b hb).1.2.2.1 z
  · -- the names
    refine ⟨_, hns.keeps fun b o q => Heap.get?_push_of_some _ q, fun i y av e1 e2 e3 => ?_⟩
    obtain ⟨e2, hne⟩ := wipe_some e2
    have hf : scope.names.lookup y = some .free := by
      have e3 : Vis scope y := e3
      have nloc : scope.names.lookup y ≠ some .local := fun q => by
        rcases ok.blk.own _ (PySem.mem_of_lookup q) (.inl rfl) with z | z
        · obtain ⟨p, hp, e⟩ := List.mem_map.mp z
          have q1 := ok.blk.ix p hp
          have e : p.1 = y := e
          rw [e] at q1
          exact hne (List.mem_map.mpr ⟨p, hp, nodup_ix hN q1 e1⟩)
        · exact z (List.mem_of_getElem? e1)
      rcases e3 with z | z | z
      · exact absurd z nloc
      · exact absurd z (nocell y)
      · exact z
    obtain ⟨c, h1, h2⟩ := fr hf
    obtain ⟨m, hn, hl⟩ := I.loc
    have vis : Vis X.env.scope y := by
      rcases ok.blk.free _ (PySem.mem_of_lookup hf) rfl with z | z
      · exact .inr (.inl z)
      · exact .inr (.inr z)
    obtain ⟨u, r, q⟩ := hl i y av e1 e2 vis
    refine ⟨u, r, .inr ⟨.inr hf, c, h1, ?_⟩⟩
    rcases q with ⟨z, _⟩ | ⟨_, c', e', z⟩
    · have z : X.env.scope.names.lookup y = some .local := z
      rcases ok.blk.free _ (PySem.mem_of_lookup hf) rfl with w | w
      · rw [show X.env.scope.names.lookup y = some .cell from w] at z; cases z
      · rw [show X.env.scope.names.lookup y = some .free from w] at z; cases z
    · rw [h2] at e'; cases e'
      exact z.keeps kp
  · obtain ⟨u, q⟩ := I.cell y c (lk e).1
    exact ⟨u, q.keeps kp⟩
  · have e : p = (h'.objs.size, ob) := by simpa [gCx] using hp
    subst e
    have hlt : s.heap.objs.size < h'.objs.size := by omega
    exact ⟨hob, I.hok.fresh (Nat.le_of_lt hlt), Nat.ne_of_gt hlt, fun z => by
      rcases List.mem_cons.mp (I.stkSub _ z) with z | z
      · have z : h'.objs.size = X.env.locals := z
        have := I.lt
        rw [← z] at this
        exact absurd this (Nat.lt_asymm hlt)
      · exact I.nofs (Nat.le_of_lt hlt) z, hobc⟩

/-- the same heap, other bookkeeping -/
theorem Inv.sameHeap {s' : Shared} (I : Inv X pins σ H s) (h1 : s'.heap = s.heap) (h2 : s'.os = s.os) (h3 : AllBare s'.gens) : Inv X pins σ H s' := by
  obtain ⟨hh, g, d, t, o⟩ := s'
  have h1 : hh = s.heap := h1
  have h2 : o = s.os := h2
  subst h1 h2
  exact I.step (g' := g) (d' := d) (t' := t) (ch := []) (fun _ z => absurd z (by simp)) (fun _ _ _ _ _ e _ => e) (fun b ob _ _ _ e _ => ⟨ob.slots, e⟩) (fun _ _ _ _ n => n) (fun b ob _ e => ⟨ob, e⟩) (fun _ _ e => e) (fun _ _ _ e => e) (fun b ps e => ⟨#[], by rw [e]; simp⟩) (fun _ q => q) I.hok h3

/-- an item of a generator expression, what its consumer may do between two of them -/
def gY (X' : Cx) (fp : List Addr) (tn : Nat → Heap → Prop) (σ' : L2.St) (N : Nat) (Nx : Nat → V → Hp → Prop) (W : Nat → Hp → Prop) : Protocol := fun m s₀ v s kap =>
  ∃ i y H, m + (i + 1) = N ∧ RelV y v ∧ Nx i y H ∧ Inv X' [] σ' H s ∧ tn (i + 1) s.heap ∧ (∀ b ∈ fp, H b = none) ∧
    ∀ s'' H'', Inv X' [] σ' H'' s'' → tn (i + 1) s''.heap → (∀ b ∈ fp, H'' b = none) → W (i + 1) H'' → kap (.send .none) s''
def gR (X' : Cx) (σ' : L2.St) (End : Hp → Prop) : GenEnd := fun _ s₀ r s => r = .ok .next ∧ ∃ H, Inv X' [] σ' H s ∧ End H
/-- what a turn of a generator expression is to do: i its number -/
def GTurn (J : It) (g : TG) (te : TE) (vs : List Nat) (σ' : L2.St) (N : Nat) (Nx : Nat → V → Hp → Prop) (W : Nat → Hp → Prop) (End : Hp → Prop) : Prop :=
  ∀ i H, W i H → (J.stop i H ∧ End H) ∨ (i < N ∧ J.go i H ∧ ∀ x H', J.yld i H x H' → g x σ' H' fun σ2 H2 => wipe σ2 vs = σ' ∧ te σ2 H2 fun y H3 => Nx i y H3)
theorem genLoop_den {P : Program} {w : World} {elt tg iter : Expr} {scope : Scope} {pos : Pos} {it acc : Value} {env : PySem.Env} :
    (model P w).den (.compLoop (.GeneratorExp elt [⟨tg, iter, [], 0⟩] scope pos) 0 it acc env) = (compTurn (.GeneratorExp elt [⟨tg, iter, [], 0⟩] scope pos) 0 it acc env).onRaise (leaving env) := by rfl
theorem seg_gen {elt tg iter : Expr} {scope : Scope} {pos : Pos} {A : Around} {J : It} {fp : List Addr} {it : Addr} {tn : Nat → Heap → Prop} {g : TG} {te : TE} {vs : List Nat} {σ' : L2.St} {N : Nat} {Nx : Nat → V → Hp → Prop} {W : Nat → Hp → Prop} {End : Hp → Prop}
    (hA : X.A = gA A X.env) (hxe : X.xe = fun _ _ => False) (hc : X.calm = true) (hco : X.env.scope.isCoroutine = false) (T : Turn X.prog X.w X.K tg J fp it tn) (hex : X.ex = fp)
    (hpn : ∀ b ∈ fp, ∀ p ∈ X.pn, p.1 ≠ b) (pg : PG X tg g) (pe : PE X elt te) (gt : GTurn J g te vs σ' N Nx W End) (hvs : ∀ σ2, wipe σ2 vs = σ' → σ2.length = σ'.length) :
    ∀ (n i : Nat) (s₀ s : Shared) (H : Hp), n + i = N → Inv X [] σ' H s → tn i s.heap → (∀ b ∈ fp, H b = none) → W i H →
      Seg (model X.prog X.w) A (gR X σ' End) (gY X fp tn σ' N Nx W) n s₀ (.compLoop (.GeneratorExp elt [⟨tg, iter, [], 0⟩] scope pos) 0 (.ref it) .none X.env)
        ((model X.prog X.w).den (.compLoop (.GeneratorExp elt [⟨tg, iter, [], 0⟩] scope pos) 0 (.ref it) .none X.env)) [] s := by
  have stat : ∀ {σ0 : L2.St} {H' : Hp} {s' : Shared}, Inv X [] σ0 H' s' → (∀ b ∈ fp, H' b = none) → ∀ b ∈ fp, FpOk X [] H' b := fun {σ0 H' s'} I' hn b hb =>
    ⟨hn b hb, (I'.ok.exf b (hex ▸ hb)).1, I'.ok.exfs b (hex ▸ hb), .inl (hex ▸ hb), fun x c e => (I'.ok.exf b (hex ▸ hb)).2 x c e, fun p hp => hpn b hb p (by simpa using hp)⟩
  intro n
  induction n with
  | zero =>
    intro i s₀ s H hn I st fr w
    rw [genLoop_den, compTurn_gen, Sem.onRaise_eq_wrap]
    refine seg_bind_wrap (wpAny_standAt ?_)
    rcases gt i H w with ⟨hs, he⟩ | ⟨hlt, _⟩
    · refine seg_bind_wrap ?_
      rw [over_genLoop, ← hA]
      refine thnF (T.done X rfl rfl rfl hc i [] s _ H (fun _ _ => False) I (stat I fr) st hs) fun r s1 ⟨hr, I1⟩ => ?_
      subst hr
      exact seg_end (.ok .next) ⟨rfl, H, I1, he⟩
    · omega
  | succ n ih =>
    intro i s₀ s H hn I st fr w
    rw [genLoop_den, compTurn_gen, Sem.onRaise_eq_wrap]
    refine seg_bind_wrap (wpAny_standAt ?_)
    refine seg_bind_wrap ?_
    rw [over_genLoop, ← hA]
    rcases gt i H w with ⟨hs, he⟩ | ⟨hlt, go, turn⟩
    · refine thnF (T.done X rfl rfl rfl hc i [] s _ H (fun _ _ => False) I (stat I fr) st hs) fun r s1 ⟨hr, I1⟩ => ?_
      subst hr
      exact seg_end (.ok .next) ⟨rfl, H, I1, he⟩
    · refine thnF (T.item X rfl rfl rfl hc i [] s _ H (fun _ _ => False) I (stat I fr) st go) fun r s1 ⟨u, hr, h1⟩ => ?_
      subst hr
      refine seg_bind_wrap ?_
      rw [over_genLoop, ← hA]
      refine thnF h1 fun _ s2 ⟨x, H2, I2, r2, y2, st2, fr2⟩ => ?_
      have I2' := I2.pinned (stat I2 fr2) (T.obj _ _ st2)
      refine seg_bind_wrap ?_
      rw [over_genLoop, ← hA]
      refine wpAny_mono (pg.run _ s2 σ' H2 x u _ I2' r2 (turn x H2 y2)) (fun _ s3 ⟨σ3, H3, I3, w3, q3⟩ => ?_) fun e s' z => by rw [hxe] at z; exact z.elim
      refine seg_bind_wrap ?_
      simp only [List.forIn_nil]
      refine wpAny_pure ?_
      simp only [if_true]
      have hy : ∀ v, yieldOut X.env v = yieldValue v := fun v => by simp only [yieldOut, hco, Bool.false_eq_true, if_false]
      simp only [hy]
      rw [Sem.bind_eq_wrap', Sem.bind_eq_wrap', Sem.wrap_wrap, Sem.wrap_wrap]
      refine seg_wrap ?_
      rw [over_genLoop, ← hA]
      refine wpAny_mono (pe.run _ s3 σ3 H3 _ I3 q3) (fun v s4 ⟨y, H4, I4, r4, nx⟩ => ?_) fun e s' z => by rw [hxe] at z; exact z.elim
      have pin : ∀ b ∈ fp, ∀ o, s2.heap.get? b = some o → s4.heap.get? b = some o ∧ H4 b = none := fun b hb o e =>
        let z := I4.pin (b, o) (List.mem_append_right _ (List.mem_append_right _ (mem_pinsAt hb e)))
        ⟨z.1, z.2.1⟩
      have I5 : Inv X [] σ' H4 s4 := (I4.unpinned (pins := [])).weak (hvs σ3 w3).symm fun j v e => by
        rw [← w3] at e
        exact (wipe_some e).1
      refine seg_at (seg_yield rfl rfl rfl ⟨i, y, H4, by omega, r4, nx, I5, T.keep _ _ _ st2 fun b hb o e => (pin b hb o e).1, fun b hb => ?_, fun s'' H'' I'' st'' fr'' w'' => ?_⟩)
      · obtain ⟨o, e, _⟩ := T.obj _ _ st2 b hb
        exact (pin b hb o e).2
      · exact seg_again rfl (ih (i + 1) s'' s'' H'' (by omega) I'' st'' fr'' w'')
end
end Rv

set_option Elab.async false
set_option linter.all false
set_option maxRecDepth 100000
set_option maxHeartbeats 4000000
/-! RvJ: all(generator expression). -/
namespace Rv
open PySem PySem.Spec PyProof.Rows L2 GenW GxR
section
variable {X : Cx}
theorem genStart_den {P : Program} {w : World} {elt tg iter : Expr} {scope : Scope} {pos : Pos} {it acc : Value} {env : PySem.Env} :
    (model P w).den (.compStart (.GeneratorExp elt [⟨tg, iter, [], 0⟩] scope pos) 0 it acc env) = (compStart (.GeneratorExp elt [⟨tg, iter, [], 0⟩] scope pos) 0 it acc env).onRaise (leaving env) := by rfl
theorem seg_gen0 {elt tg iter : Expr} {scope : Scope} {pos : Pos} {A : Around} {J : It} {fp : List Addr} {it : Addr} {tn : Nat → Heap → Prop} {g : TG} {te : TE} {vs : List Nat} {σ' : L2.St} {N : Nat} {Nx : Nat → V → Hp → Prop} {W : Nat → Hp → Prop} {End : Hp → Prop}
    (hA : X.A = gA A X.env) (hxe : X.xe = fun _ _ => False) (hc : X.calm = true) (hco : X.env.scope.isCoroutine = false) (T : Turn X.prog X.w X.K tg J fp it tn) (hex : X.ex = fp)
    (hpn : ∀ b ∈ fp, ∀ p ∈ X.pn, p.1 ≠ b) (pg : PG X tg g) (pe : PE X elt te) (gt : GTurn J g te vs σ' N Nx W End) (hvs : ∀ σ2, wipe σ2 vs = σ' → σ2.length = σ'.length)
    (s₀ s : Shared) (H : Hp) (I : Inv X [] σ' H s) (st : tn 0 s.heap) (fr : ∀ b ∈ fp, H b = none) (w : W 0 H) :
    Seg (model X.prog X.w) A (gR X σ' End) (gY X fp tn σ' N Nx W) N s₀ (.compStart (.GeneratorExp elt [⟨tg, iter, [], 0⟩] scope pos) 0 (.ref it) .none X.env)
      ((model X.prog X.w).den (.compStart (.GeneratorExp elt [⟨tg, iter, [], 0⟩] scope pos) 0 (.ref it) .none X.env)) [] s := by
  have loop := seg_gen (iter := iter) (scope := scope) (pos := pos) hA hxe hc hco T hex hpn pg pe gt hvs N 0 s₀ s H rfl I st fr w
  rw [genStart_den]
  unfold compStart
  rw [Sem.onRaise_eq_wrap]
  show Seg _ A _ _ _ s₀ _ ((ask >>= _).wrap _ _ _ _) [] s
  refine seg_bind_wrap (wpAny_askSetting ?_)
  split
  · exact seg_again rfl loop
  · refine seg_bind_wrap (wpAny_rule ?_)
    show Seg _ A _ _ _ s₀ _ ((standAt iter.pos >>= _).wrap _ _ _ _) [] s
    refine seg_bind_wrap (wpAny_standAt ?_)
    exact seg_bind_wrap (T.self _ 0 s _ _ st (seg_again rfl loop))
/-- the generator at a, its number gi, as it stands with n items at most to come -/
def GenNow (X : Cx) (A : Around) (gi : Nat) (σ' : L2.St) (fp : List Addr) (tn : Nat → Heap → Prop) (N : Nat) (Nx : Nat → V → Hp → Prop) (W : Nat → Hp → Prop) (End : Hp → Prop) (n : Nat) (s : Shared) : Prop :=
  ∃ gs, s.gens[gi]? = some gs ∧ gs.Goes (model X.prog X.w) A (gR X σ' End) (gY X fp tn σ' N Nx W) n (.send .none) (s.setGen gi .running)
theorem all_loop {A : Around} {a : Addr} {ob : Obj} {gi : Nat} {σ' : L2.St} {fp : List Addr} {tn : Nat → Heap → Prop} {N : Nat} {Nx : Nat → V → Hp → Prop} {W : Nat → Hp → Prop} {End : Hp → Prop} {Fin : Bool → Hp → Prop} {R : Result → Shared → Prop}
    (hh : A.handled = none) (hd : A.depth < recursionLimit) (hpn : X.pn = [(a, ob)]) (hob : ∃ nm qn, ob.cls = .type "generator" ∧ ob.data = .fields #[.int gi 0, nm, qn] ∧ ob.slots = #[])
    (hx : ∀ i y H, Nx i y H → ∃ b, y = .bl b ∧ (b = true → W (i + 1) H) ∧ (b = false → Fin false H)) (he : ∀ H, End H → Fin true H)
    (hR : ∀ b H s', Inv X [] σ' H s' → Fin b H → R (.ok (.ret (.bool b))) s') :
    ∀ (n : Nat) (s : Shared) (H : Hp), Inv X [] σ' H s → GenNow X A.in1.in1 gi σ' fp tn N Nx W End n s →
      codeAny (model X.prog X.w) A (.builtin "all.loop" ⟨[.ref a], []⟩) R s := by
  have isg : ∀ {H : Hp} {s : Shared}, Inv X [] σ' H s → s.heap.IsGen a gi := fun {H s} I => by
    obtain ⟨nm, qn, h1, h2, h3⟩ := hob
    have z := (I.pin (a, ob) (by rw [hpn]; simp)).1
    exact ⟨ob, nm, qn, z, h1, h2, h3⟩
  intro n
  induction n with
  | zero =>
    intro s H I ⟨gs, hgs, hgo⟩
    refine codeAny_builtin F.entry_all_loop ?_
    rw [Around.under_plainId F.plain_all_loop _]
    show wpAny _ A.in1 (pyNext (.ref a) >>= _) _ _ s
    refine wpAny_bind (wpAny_pyNext_genexpQ (A := A.in1) (P := fun _ _ s₁ => ∃ H, Inv X [] σ' H s₁ ∧ End H) hh I.nolimit hd (isg I) hgs hgo (fun v s₁ gs' hb hv => ?_) (fun s₁ hp h' hk => ?_))
    · obtain ⟨i, y, H1, hm, rv, nx, I1, st1, fr1, kap⟩ := hv
      obtain ⟨b, rfl, ht, hf⟩ := hx i y H1 nx
      cases (show v = Value.bool b from rv)
      cases b with
      | true => exact (kap s₁ H1 I1 st1 fr1 (ht rfl)).elim
      | false =>
        refine wpAny_bind (wpAny_holding (wpAny_truthy_bool ?_))
        refine wpAny_bind (wpAny_letGo ?_)
        simp only [Bool.false_eq_true, if_false]
        exact wpAny_bind (wpAny_rule (wpAny_pure (hR false H1 _ (Inv.sameHeap I1 rfl rfl (allBare_setGen I1.bare hb)) (hf rfl))))
    · obtain ⟨H1, I1, e1⟩ := hp
      refine wpAny_bind (wpAny_rule (wpAny_pure (hR true H1 _ ?_ (he H1 e1))))
      have I2 : Inv X [] σ' H1 (s₁.setGen gi .finished) := Inv.sameHeap I1 rfl rfl (allBare_setGen I1.bare rfl)
      exact I2.kept (t' := s₁.toks) hk
  | succ n ih =>
    intro s H I ⟨gs, hgs, hgo⟩
    have hgl : gi < s.gens.size := (Array.getElem?_eq_some_iff.mp hgs).1
    refine codeAny_builtin F.entry_all_loop ?_
    rw [Around.under_plainId F.plain_all_loop _]
    show wpAny _ A.in1 (pyNext (.ref a) >>= _) _ _ s
    refine wpAny_bind (wpAny_gsz (n := gi + 1) hgl (wpAny_pyNext_genexpQ (A := A.in1) (P := fun _ _ s₁ => ∃ H, Inv X [] σ' H s₁ ∧ End H) hh I.nolimit hd (isg I) hgs hgo (fun v s₁ gs' hb hv => ?_) (fun s₁ hp h' hk => ?_)))
    · intro hsz
      obtain ⟨i, y, H1, hm, rv, nx, I1, st1, fr1, kap⟩ := hv
      obtain ⟨b, rfl, ht, hf⟩ := hx i y H1 nx
      cases (show v = Value.bool b from rv)
      have I2 : Inv X [] σ' H1 (s₁.setGen gi gs') := Inv.sameHeap I1 rfl rfl (allBare_setGen I1.bare hb)
      refine wpAny_bind (wpAny_holding (wpAny_truthy_bool ?_))
      refine wpAny_bind (wpAny_letGo ?_)
      cases b with
      | true =>
        simp only [if_true]
        have hg2 : gi < s₁.gens.size := by
          have q := setGen_size s₁ gi gs'
          rw [q] at hsz; exact hsz
        refine wpAny_pure ⟨plainId_quiet F.plain_all_loop _, ih _ H1 I2 ⟨gs', setGen_at hg2, ?_⟩⟩
        refine kap _ H1 (Inv.sameHeap I2 rfl rfl (allBare_setGen I2.bare rfl)) st1 fr1 (ht rfl)
      | false =>
        simp only [Bool.false_eq_true, if_false]
        exact wpAny_bind (wpAny_rule (wpAny_pure (hR false H1 _ I2 (hf rfl))))
    · intro _
      obtain ⟨H1, I1, e1⟩ := hp
      refine wpAny_bind (wpAny_rule (wpAny_pure (hR true H1 _ ?_ (he H1 e1))))
      have I2 : Inv X [] σ' H1 (s₁.setGen gi .finished) := Inv.sameHeap I1 rfl rfl (allBare_setGen I1.bare rfl)
      exact I2.kept (t' := s₁.toks) hk

/-- all(elt for tg in iter); P the running def's table -/
def tAllG (P : Addr) (wi : TI) (g : TG) (te : TE) (vs : List Nat) : TE := fun σ H Q => wi σ H fun J H1 => TabG H1 P ∧ ∀ H2, Tabbed P H1 H2 → ∃ (N : Nat) (Nx : Nat → V → Hp → Prop) (W : Nat → Hp → Prop) (End : Hp → Prop),
  W 0 H2 ∧ GTurn J g te vs (wipe σ vs) N Nx W End ∧ (∀ i y H, Nx i y H → ∃ b, y = .bl b ∧ (b = true → W (i + 1) H) ∧ (b = false → Q (.bl false) H)) ∧ ∀ H, End H → Q (.bl true) H
def nlst : Expr → Bool
  | .List .. => false
  | .Set .. => false
  | _ => true
theorem gfold_of {e : Expr} {env : PySem.Env} (h : nlst e = true) : ∀ x, genFold e env x = pure x := fun x => by
  cases e <;> first | rfl | cases h
theorem wipe_wipe {σ σ2 : L2.St} {vs : List Nat} (h : wipe σ2 vs = wipe σ vs) : σ2.length = (wipe σ vs).length := by rw [← h, wipe_length]
theorem pe_allG {elt tg iter : Expr} {scope : Scope} {own : List (Str × Nat)} {gpos pos p : Pos} {c P : Addr} {wi : TI} {g : TG} {te : TE}
    (hg : Gl X "all") (hm : X.mg "all" = none) (hbt : bootBuiltins "all" = some (.builtin "all")) (hc : X.calm = true) (hN : X.N.Nodup) (hr : X.A.depth + 8 < recursionLimit) (TB : TabB X.base X.mg c P) (hcode : X.env.code = .ref c)
    (ok : GenOk X.N X.env.scope scope own) (hi : PI X tg iter wi) (hs : nlst iter = true)
    (pg : ∀ (s : Shared) (H : Hp) (code : Value) (fp : List Addr) (a : Addr) (ob : Obj), PG (gCx X s H (genEnv scope (cloFrom X.env.cells scope.names []) s.heap.objs.size code builtinsNs X.env) fp a ob) tg g)
    (pe : ∀ (s : Shared) (H : Hp) (code : Value) (fp : List Addr) (a : Addr) (ob : Obj), PE (gCx X s H (genEnv scope (cloFrom X.env.cells scope.names []) s.heap.objs.size code builtinsNs X.env) fp a ob) elt te)
    (he : starEach [.GeneratorExp elt [⟨tg, iter, [], 0⟩] scope gpos] X.env = (false, eval (.GeneratorExp elt [⟨tg, iter, [], 0⟩] scope gpos) X.env) :: starEach [] X.env := by rfl) :
    PE X (.Call (.Name "all" p) [.GeneratorExp elt [⟨tg, iter, [], 0⟩] scope gpos] [] pos) (tAllG P wi g te (own.map (·.2))) := by
  refine ⟨fun pins s σ H Q I h => ?_⟩
  refine wpAny_Call_Name_kw (ld_blt I hg hm hbt ?_)
  refine PyProof.Rows.callWith_builtin1 ?_ he (by rfl)
  rw [he]
  show wpAny _ _ (spliced ((false, eval (.GeneratorExp elt [⟨tg, iter, [], 0⟩] scope gpos) X.env) :: backTo pos (starEach [] X.env))) _ _ s
  refine Calls.spliced_cons ?_
  refine wpAny_GeneratorExp_make ok.co (closure_ok (clo_has I ok.blk)) ok.cell ok.dot ok.blk.kind (by omega) ?_ (gfold_of hs)
  refine thn (hi.run pins s σ H _ I h) fun xv s1 hx => thn hx fun itv s2 h2 => ?_
  obtain ⟨it, fp, tn, J, H2, rfl, I2, T, st2, f2, ⟨ps, hP, ht⟩, q⟩ := h2
  have hPs : s2.heap.get? P = some { cls := .none, data := .fields ps } := I2.hok P _ hP
  have cd : PySem.W.CodeHd s2.heap c P := TB.code.keeps I2.bk
  have sz2 : ∀ b ∈ fp, b < s2.heap.objs.size := fun b hb => by
    obtain ⟨o, e, _⟩ := T.obj _ _ st2 b hb
    exact Heap.lt_size e
  refine ⟨I2.nolimit, ?_⟩
  -- from the code on
  have cont : ∀ (code : Value) (H3 : Hp) (s3 : Shared), Inv X pins σ H3 s3 → Tabbed P H2 H3 → tn 0 s3.heap → (∀ b ∈ fp, FpOk X pins H3 b ∧ b < s3.heap.objs.size) →
      wpAny (model X.prog X.w) X.A (builtinsFor X.env.globals X.env.builtins) (fun bi s₄ =>
        ∀ h', h'.Ns s₄.heap.objs.size (fun y => if y = (".0" : Str) then some (Value.ref it) else none) → Heap.SameBut s₄.heap.objs.size (s₄.heap.push { cls := .type "frame", data := .dict #[] }) h' →
          wpAny (model X.prog X.w) X.A (spliced (backTo pos (starEach [] X.env))) (fun vs s5 => wpAny (model X.prog X.w) X.A (PySem.call (.builtin "all") (Value.ref h'.objs.size :: vs)) (EP X pins σ Q) X.xe s5) X.xe
            { s₄ with gens := s₄.gens.push (.fresh (.compStart (.GeneratorExp elt [⟨tg, iter, [], 0⟩] scope gpos) 0 (.ref it) .none (genEnv scope (cloFrom X.env.cells scope.names []) s₄.heap.objs.size code bi X.env))),
                      toks := s₄.toks + 1 + 1 + 1,
                      heap := h'.push { cls := .type "generator", data := .fields #[.int s₄.gens.size 0, .str "<genexpr>" (s₄.toks + 1), .str (X.env.qual ++ "<genexpr>") (s₄.toks + 1 + 1)] } }) X.xe s3 := by
    intro code H3 s3 I3 tb3 st3 f3
    obtain ⟨bm, ob, e1, e2, e3, e4, e5, e6, e7, e8⟩ := TB.bm
    refine wpAny_builtinsFor (m := X.mg) (by rw [I3.ok.glob]; exact I3.mod.glob.keeps I3.bk) e1 e2 (I3.bk _ _ e5) e6 e7 e8 ?_
    intro h' hn' hs'
    refine Calls.spliced_nil ?_
    have hsz : h'.objs.size = s3.heap.objs.size + 1 := by rw [hs'.1, Heap.size_push]
    have keep' : ∀ b o, s3.heap.get? b = some o → h'.get? b = some o := fun b o e => hs'.extBut b o (Nat.ne_of_lt (Heap.lt_size e)) (Heap.get?_push_of_some _ e)
    generalize hgo : ({ cls := .type "generator", data := .fields #[.int s3.gens.size 0, .str "<genexpr>" (s3.toks + 1), .str (X.env.qual ++ "<genexpr>") (s3.toks + 1 + 1)] } : Obj) = gob
    have gat : (h'.push gob).get? h'.objs.size = some gob := by rw [← hgo]; exact Heap.get?_push_size _ rfl
    have gcell : ∀ v, gob.data ≠ .cell v := fun v z => by rw [← hgo] at z; cases z
    have I5 := gen_start (code := code) (gs := .fresh (.compStart (.GeneratorExp elt [⟨tg, iter, [], 0⟩] scope gpos) 0 (.ref it) .none (genEnv scope (cloFrom X.env.cells scope.names []) s3.heap.objs.size code builtinsNs X.env))) (tk := s3.toks + 1 + 1 + 1)
      I3 ok hN f3 hn' keep' hsz gat gcell rfl
    have pg' := pg s3 H3 code fp h'.objs.size gob
    have pe' := pe s3 H3 code fp h'.objs.size gob
    generalize hce : genEnv scope (cloFrom X.env.cells scope.names []) s3.heap.objs.size code builtinsNs X.env = ce at I5 pg' pe' ⊢
    have hsc : ce.scope = scope := by rw [← hce]; rfl
    obtain ⟨N, Nx, W, End, w0, gt, hx, hE⟩ := q H3 tb3
    generalize hs5 : ({ s3 with gens := s3.gens.push (.fresh (.compStart (.GeneratorExp elt [⟨tg, iter, [], 0⟩] scope gpos) 0 (.ref it) .none ce)), toks := s3.toks + 1 + 1 + 1, heap := h'.push gob } : Shared) = s5 at I5 ⊢
    have st5 : tn 0 s5.heap := T.keep _ _ _ st3 fun b _ o e => by rw [← hs5]; exact Heap.get?_push_of_some _ (keep' b o e)
    have g5 : s5.gens[s3.gens.size]? = some (.fresh (.compStart (.GeneratorExp elt [⟨tg, iter, [], 0⟩] scope gpos) 0 (.ref it) .none ce)) := by rw [← hs5]; exact Array.getElem?_push_size ..
    have hpnf : ∀ b ∈ fp, ∀ pr ∈ (gCx X s3 H3 ce fp h'.objs.size gob).pn, pr.1 ≠ b := fun b hb pr hpr z => by
      have e : pr = (h'.objs.size, gob) := by simpa [gCx] using hpr
      rw [e] at z
      have := (f3 b hb).2
      rw [← z] at this
      exact absurd this (by show ¬ h'.objs.size < s3.heap.objs.size; omega)
    have isg : s5.heap.IsGen h'.objs.size s3.gens.size := by
      refine ⟨gob, .str "<genexpr>" (s3.toks + 1), .str (X.env.qual ++ "<genexpr>") (s3.toks + 1 + 1), by rw [← hs5]; exact gat, ?_, ?_, ?_⟩
      · rw [← hgo]
      · rw [← hgo]
      · rw [← hgo]
    refine call_function_tree F.kind_all F.plain_all F.entry_all (F.args_all1 _) ?_
    unfold Builtin.«all»
    refine wpAny_bind (m := oneArg "all" _) (wpAny_pure ?_)
    refine wpAny_bind (wpAny_pyIter_gen isg ?_)
    refine wpAny_pure ⟨plainId_quiet F.plain_all_loop _, ?_⟩
    refine all_loop (X := gCx X s3 H3 ce fp h'.objs.size gob) (A := X.A) (gi := s3.gens.size) (ob := gob) (N := N) (Nx := Nx) (W := W) (End := End) (fp := fp) (tn := tn) (Fin := fun b H => Q (.bl b) H) (I.ok.hd hc) (by omega) rfl ⟨.str "<genexpr>" (s3.toks + 1), .str (X.env.qual ++ "<genexpr>") (s3.toks + 1 + 1), by rw [← hgo], by rw [← hgo], by rw [← hgo]⟩ hx hE ?_ N s5 H3 I5 ⟨_, g5, rfl, ?_⟩
    · intro b H6 s6 I6 q6
      have I7 : Inv X pins σ H6 s6 := I3.call' (ch := fp) I6.os I6.base I6.hok I6.bare fun b hb => ⟨(f3 b hb).1.2.2.2.1, (f3 b hb).1.2.1, (f3 b hb).1.2.2.2.2.1, (f3 b hb).1.2.2.2.2.2⟩
      exact ⟨.bl b, H6, I7, rfl, q6⟩
    · refine seg_gen0 (X := gCx X s3 H3 ce fp h'.objs.size gob) (A := X.A.in1.in1) rfl rfl hc (by show ce.scope.isCoroutine = false; rw [hsc]; exact ok.co) T rfl hpnf pg' pe' gt (fun σ2 e => by rw [← e, wipe_length]) _ _ H3 (Inv.sameHeap I5 rfl rfl (allBare_setGen I5.bare rfl)) st5 (fun b hb => (f3 b hb).1.1) w0
  cases hf : codeAmong gpos ps.toList with
  | some cv => exact wpAny_genexprCode_hit hcode (cd.code hPs ht) hf (cont cv H2 s2 I2 ⟨⟨ps, hP, ht⟩, fun _ _ => rfl⟩ st2 fun b hb => ⟨f2 b hb, sz2 b hb⟩)
  | none =>
    refine wpAny_genexprCodeX hcode (cd.code hPs ht) (cd.tab hPs) hf fun c' h' tk hx' hge hlt hco' _ htab' _ => ?_
    obtain ⟨_, _, _, _, _, _, _, _, _, _, _, _, _, _, _, _, _, _, _, htr, _⟩ := hco'
    have nP : ∀ b ∈ fp, b ≠ P := fun b hb z => by
      have := (f2 b hb).1
      rw [z, hP] at this
      cases this
    have I3 := inv_tab (more := #[rawInt gpos.line, rawInt gpos.col, .ref c']) (h' := h') (g' := s2.gens) (d' := s2.drawn) (t' := tk) I2 hP (fun b u hb e => hx' b u hb e) htab'.2 I2.bare
    refine cont _ _ _ I3 ⟨⟨_, upd_same, htr⟩, fun b hb => upd_ne hb⟩ (T.keep _ _ _ st2 fun b hb u e => hx' b u (nP b hb) e) fun b hb => ⟨⟨?_, (f2 b hb).2⟩, Nat.lt_of_lt_of_le (sz2 b hb) (Nat.le_trans hge (Nat.le_of_lt hlt))⟩
    rw [upd_ne (nP b hb)]
    exact (f2 b hb).1
end
end Rv

set_option Elab.async false
set_option linter.all false
set_option maxRecDepth 100000
set_option maxHeartbeats 4000000
/-! RvK: all(generator) as the evaluator reads it. -/
namespace Rv
open PySem PySem.Spec PyProof.Rows L2
section
variable {K : PySem.W.Frag} {tabs f : List Addr} {S : Sto} {H H2 : Hp} {P : Addr}
theorem Ext.tabbed (hP : P ∈ tabs) (h : GxR.Tabbed P H H2) : Ext tabs f H f H2 := by
  refine ⟨⟨[], by simp, by simp⟩, fun b u e _ h3 => ?_, fun b hb => ?_⟩
  · rw [h.2 b fun z => h3 (z ▸ hP)]; exact e
  · by_cases e : b = P
    · obtain ⟨ps, q, _⟩ := h.1
      rw [e, q]; simp
    · rw [h.2 b e]; exact hb
theorem Rl.tabbed (R : Rl K tabs f S H) (hP : P ∈ tabs) (h : GxR.Tabbed P H H2) : Rl K tabs f S H2 := by
  have x : Ext tabs f H f H2 := Ext.tabbed hP h
  refine ⟨R.len, R.nd, fun n u b h1 h2 => ?_, fun P' hP' => ?_⟩
  · have q := R.cell n u b h1 h2
    refine q.ext R x (h.2 b fun z => ?_)
    obtain ⟨ps, q1, _⟩ := R.tab P hP
    cases u with
    | lst es =>
      obtain ⟨ws, h3, t⟩ := q
      rw [z, q1] at h3
      cases h3
  · by_cases e : P' = P
    · rw [e]; exact h.1
    · obtain ⟨ps, q1, q2⟩ := R.tab P' hP'
      exact ⟨ps, by rw [h.2 P' e]; exact q1, q2⟩
theorem wipe_idem {own : List Nat} {σ : L2.St} : wipe (wipe σ own) own = wipe σ own := by
  have : ∀ (vs : List Nat) (τ : L2.St), (∀ j ∈ vs, j ∈ own) → wipe (wipe τ own) vs = wipe τ own := by
    intro vs
    induction vs with
    | nil => intro τ _; rfl
    | cons u us ih =>
      intro τ hu
      simp only [wipe]
      rw [ih τ fun j hj => hu j (List.mem_cons_of_mem _ hj)]
      have hm := hu u List.mem_cons_self
      have key : ∀ (ws : List Nat), u ∈ ws → (wipe τ ws).set u none = wipe τ ws := by
        intro ws
        induction ws with
        | nil => intro z; cases z
        | cons a as ih2 =>
          intro z
          simp only [wipe]
          by_cases ha : a = u
          · subst ha; rw [List.set_set]
          · rcases List.mem_cons.mp z with z | z
            · exact absurd z.symm ha
            · rw [List.set_comm _ _ ha, ih2 z]
      exact key own hm
  exact this own σ fun j hj => hj
end
abbrev agStep (p : P) (own : List Nat) (me : Env → Sto → Res D) (ρ : Env) : D → Sto → Res Bool := fun d S2 =>
  Res.hard ((Res.of (bindP p [d] (wipeD ρ own)) S2).bind fun ρ' S3 => (me ρ' S3).bind fun y S4 => match y with | .bl b => .ok b S4 | _ => .bad)
theorem hard_exc {α : Type} {r : Res α} {z : D} {S : Sto} : Res.hard r ≠ .exc z S := fun h => by
  cases r <;> cases h
theorem allL_hard {g : Gd} {p : P} {own : List Nat} {me : Env → Sto → Res D} {ρ : Env} : ∀ (xs : List D) (S : Sto) (x : D) (S' : Sto), allL g (agStep p own me ρ) xs S ≠ .exc x S'
  | [], S, x, S', h => by
    unfold allL at h
    split at h <;> cases h
  | y :: ys, S, x, S', h => by
    unfold allL at h
    split at h
    · cases q : agStep p own me ρ y S with
      | ok o S1 =>
        rw [q] at h
        simp only [Res.bind_ok] at h
        split at h
        · exact allL_hard ys S1 _ _ h
        · cases h
      | exc z S1 => exact absurd q hard_exc
      | bad => rw [q] at h; cases h
    · cases h
def genG (G : Gx) (scope : Scope) (own : List Nat) : Gx := ⟨G.N, scope, blkSt G.N own⟩
def genB (G : Gx) (scope : Scope) (own : List Nat) : Bool :=
  genC G.N G.sc scope (ownP G.N own) && (blkSt G.N own).all fun x => decide (scope.names.lookup x = some .local)
section
variable {tb : Tb} {tabs : List Addr} {k m : Nat} {T : Nat → List D → Sto → Res D} {CX : CXT} {XI : XIT} {G : Gx} {XQ : XQT} {X : Cx}
theorem good_gen (g : Good tb tabs k (m + 1) T CX XI G XQ X) {scope : Scope} {own : List Nat} (hb : genB G scope own = true) (s : Shared) (H : Hp) (cl : List (Str × Addr)) (C : Addr) (code : Value) (bi : Addr) (fp : List Addr) (a : Addr) (ob : Obj) :
    Good tb tabs k 0 T CX XI (genG G scope own) XQ0 (gCx X s H (genEnv scope cl C code bi X.env) fp a ob) := by
  unfold genB at hb
  rw [Bool.and_eq_true] at hb
  have r := g.room
  refine ⟨g.N, g.nd, rfl, fun x hx => ?_, g.calm, ⟨r.hd, ?_, ?_⟩, fun z => absurd z (Nat.lt_irrefl _), PassesOwn.never, g.gl, E0, fun _ _ _ _ _ _ _ h => (g.gl.cx0 _ _ _ _ _ h).elim, fun _ _ _ _ z => z.elim⟩
  · have h1 := List.all_eq_true.mp hb.2 x hx
    have h1 := of_decide_eq_true h1
    exact ⟨.inl h1, .inr h1⟩
  · have := r.dp
    show X.A.depth + 1 + 3 * (k + 0) + 5 < _
    omega
  · have := r.un
    show X.A.units + 1 + 1 + 3 + 16 * (k + 0) + 200 < _
    omega
theorem okE_allG {elt tg iter : Expr} {scope : Scope} {own : List Nat} {p : P} {gpos pos q : Pos} {mi : Env → Sto → Res (List D × Gd)} {me : Env → Sto → Res D}
    (g : Good tb tabs k (m + 1) T CX XI G XQ X) (hg : Gl X "all") (hm : X.mg "all" = none) (hb : genB G scope own = true) (hp : ∀ i ∈ slotsP p, i ∈ own) (hs : nlst iter = true) (hI : OkI tabs XQ X tg iter mi)
    (hP : ∀ X', Good tb tabs k 0 T CX XI (genG G scope own) XQ0 X' → X'.K = X.K → OkP tabs X' tg p)
    (hE : ∀ X', Good tb tabs k 0 T CX XI (genG G scope own) XQ0 X' → X'.K = X.K → OkE tabs XQ0 X' elt me) :
    OkE tabs XQ X (.Call (.Name "all" q) [.GeneratorExp elt [⟨tg, iter, [], 0⟩] scope gpos] [] pos) (fun ρ S => (mi ρ S).bind fun w S1 => (allL w.2 (agStep p own me ρ) w.1 S1).bind fun b S2 => .ok (.bl b) S2) := by
  obtain ⟨c, Pt, hcode, TB, hPt⟩ := g.cd (Nat.succ_pos m)
  obtain ⟨wi, pi, si⟩ := hI
  have hb' := hb
  unfold genB at hb'
  rw [Bool.and_eq_true] at hb'
  have gok := genOk_by hb'.1
  have pg := fun (s : Shared) (H : Hp) (code : Value) (fp : List Addr) (a : Addr) (ob : Obj) => (hP _ (good_gen g hb s H (cloFrom X.env.cells scope.names []) s.heap.objs.size code builtinsNs fp a ob) rfl).can
  have pe := fun (s : Shared) (H : Hp) (code : Value) (fp : List Addr) (a : Addr) (ob : Obj) => (hE _ (good_gen g hb s H (cloFrom X.env.cells scope.names []) s.heap.objs.size code builtinsNs fp a ob) rfl).can
  have dp := g.room.dp
  refine ⟨_, pe_allG (own := ownP G.N own) (g := canP X.K tabs p) (te := canE X.K tabs XQ0 me) hg hm (by rfl) g.calm (by rw [g.N]; exact g.nd) (by omega) TB hcode (by rw [g.N, g.sc]; exact gok) pi hs pg pe, fun f S H σ ρ Q R e h => ?_⟩
  rw [ownP_snd]
  refine si f S H σ ρ _ R e (h.bind fun w S1 f1 H1 J x1 R1 wk h1 => ?_)
  obtain ⟨xs, gd⟩ := w
  refine ⟨R1.tab Pt hPt, fun H2 hT => ?_⟩
  have x2 : Ext tabs f1 H1 f1 H2 := Ext.tabbed hPt hT
  have R2 := R1.tabbed hPt hT
  cases q : allL gd (agStep p own me ρ) xs S1 with
  | exc x S2 => exact absurd q (allL_hard _ _ _ _)
  | bad => rw [q] at h1; exact h1.elim
  | ok kb S2 =>
    rw [q] at h1
    have h1 : PostD X.K tabs f1 H1 (.ok (.bl kb) S2) Q XQ := h1
    refine ⟨xs.length, fun i y H => ∃ f' S' b, y = .bl b ∧ Ext tabs f1 H1 f' H ∧ Rl X.K tabs f' S' H ∧ (b = true → i + 1 ≤ xs.length ∧ allL gd (agStep p own me ρ) (xs.drop (i + 1)) S' = .ok kb S2) ∧ (b = false → kb = false ∧ S' = S2),
      fun i H => i ≤ xs.length ∧ ∃ f' S', Ext tabs f1 H1 f' H ∧ Rl X.K tabs f' S' H ∧ allL gd (agStep p own me ρ) (xs.drop i) S' = .ok kb S2, fun H => Q (.bl true) H, ⟨Nat.zero_le _, f1, S1, x2, R2, by rw [List.drop_zero]; exact q⟩, ?_, ?_, fun H h => h⟩
    · rintro i Hc ⟨hi, f', S', xx, R', q⟩
      by_cases hlt : i < xs.length
      · right
        have ed : xs.drop i = xs[i] :: xs.drop (i + 1) := List.drop_eq_getElem_cons hlt
        rw [ed] at q
        unfold allL at q
        split at q
        case isFalse => cases q
        rename_i hgd
        have gx : xs[i]? = some xs[i] := List.getElem?_eq_getElem hlt
        obtain ⟨go, yl⟩ := wk.go i xs[i] f' S' Hc xx R' hgd gx
        refine ⟨hlt, go, fun v H' hy => ?_⟩
        obtain ⟨f3, x3, R3, iv⟩ := yl v H' hy
        have xx3 := xx.trans x3
        cases q1 : agStep p own me ρ xs[i] S' with
        | exc _ _ => rw [q1] at q; cases q
        | bad => rw [q1] at q; cases q
        | ok b S4 =>
          rw [q1] at q
          simp only [Res.bind_ok] at q
          have q1 := hard_ok q1
          cases qb : bindP p [xs[i]] (wipeD ρ own) with
          | none => rw [qb] at q1; cases q1
          | some ρ' =>
            rw [qb] at q1
            simp only [Res.of_some, Res.bind_ok] at q1
            have e3 : EnvIs X.K f3 H' (wipe σ own) (wipeD ρ own) := ((e.ext R x1).ext R1 xx3).wipe own
            refine ⟨f3, S', wipeD ρ own, xs[i], ρ', R3, e3, iv, qb, fun σ2 e2 w2 => ⟨?_, f3, S', ρ', R3, e2, ?_⟩⟩
            · rw [w2 own hp, wipe_idem]
            · cases qe : me ρ' S' with
              | exc _ _ => rw [qe] at q1; cases q1
              | bad => rw [qe] at q1; cases q1
              | ok y S6 =>
                rw [qe] at q1
                simp only [Res.bind_ok] at q1
                cases y with
                | bl b' =>
                  obtain ⟨rfl, rfl⟩ : b' = b ∧ S6 = S4 := by cases q1; exact ⟨rfl, rfl⟩
                  intro f6 H6 u x6 R6 iu
                  cases iu
                  refine ⟨f6, S6, b', rfl, xx3.trans x6, R6, fun hbt => ?_, fun hbf => ?_⟩
                  · subst hbt
                    exact ⟨hlt, by simpa using q⟩
                  · subst hbf
                    simp only [Bool.false_eq_true, if_false] at q
                    cases q
                    exact ⟨rfl, rfl⟩
                | _ => cases q1
      · left
        have ei : i = xs.length := by omega
        subst ei
        rw [List.drop_length] at q
        unfold allL at q
        split at q
        case isFalse => cases q
        rename_i hgd
        obtain ⟨rfl, rfl⟩ : true = kb ∧ S' = S2 := by cases q; exact ⟨rfl, rfl⟩
        exact ⟨wk.stop _ f' S' Hc xx R' hgd (Nat.le_refl _), h1 f' Hc _ xx R' (.bl _)⟩
    · rintro i y Hc ⟨f', S', b, rfl, xx, R', h3, h4⟩
      refine ⟨b, rfl, fun hb => ?_, fun hb => ?_⟩
      · obtain ⟨h5, h6⟩ := h3 hb
        exact ⟨h5, f', S', xx, R', h6⟩
      · obtain ⟨rfl, rfl⟩ := h4 hb
        exact h1 f' Hc _ xx R' (.bl _)
end
end Rv

set_option Elab.async false
set_option linter.all false
set_option maxRecDepth 100000
set_option maxHeartbeats 4000000
/-! RvL: which term of the small syntax an expression is; that it does what the term says. -/
namespace Rv
open PySem PySem.Spec PyProof.Rows L2
def visB (sc : Scope) (x : Str) : Bool := decide (sc.names.lookup x = some .local) || (decide (sc.names.lookup x = some .cell) || decide (sc.names.lookup x = some .free))
theorem vis_of {sc : Scope} {x : Str} (h : visB sc x = true) : Vis sc x := by
  unfold visB at h
  simp only [Bool.or_eq_true, decide_eq_true_eq] at h
  exact h
def glB (G : Gx) (x : Str) : Bool := decide (G.sc.names.lookup x = some .globalImplicit)
def conB (c : C) (k : Const) : Bool := match c, k with
  | .non, .none => true
  | .bl a, .bool b => a == b
  | .int a, .int b => a == b
  | .str a, .str b => decide (a = b)
  | _, _ => false
def dbgB (x : Str) : Bool := !(x == ("__debug__" : Str))
def tyNames : List String := ["int", "bool", "str", "tuple", "list", "dict"]
theorem ty_nm : ∀ n ∈ tyNames, Str.ofString n ≠ ("__name__" : Str) := by decide +kernel
theorem ty_boot : ∀ n ∈ tyNames, bootBuiltins (Str.ofString n) = some (.type n) := by decide +kernel
section
variable (tb : Tb)
mutual
def chkE : E → Nat → Gx → Expr → Bool
  | .var i, _, G, .Name x _ => decide (G.N[i]? = some x) && (visB G.sc x && (dbgB x && !(x == ("__classdict__" : Str))))
  | .con c, _, _, .Constant k _ _ => conB c k
  | .tyc n, _, G, .Name x _ => decide (x = Str.ofString n) && (decide (n ∈ tyNames) && (glB G x && (decide (x ∈ tb.free) && dbgB x)))
  | .glo y d, _, G, .Name x _ => decide (x = y) && (glB G x && (decide ((y, d) ∈ tb.glo) && dbgB x))
  | .bin op a b, m, G, .BinOp x op' y _ => decide (op' = op) && (chkE a m G x && chkE b m G y)
  | .neg a, m, G, .UnaryOp .USub x _ => chkE a m G x
  | .not a, m, G, .UnaryOp .Not x _ => chkE a m G x
  | .cmp op a b, m, G, .Compare x [op'] [y] _ => decide (op' = op) && (nset y && (chkE a m G x && chkE b m G y))
  | .cmp2 op op' a b c, m, G, .Compare x [o1, o2] [y, z] _ => decide (o1 = op) && (decide (o2 = op') && (nset z && (chkE a m G x && (chkE b m G y && chkE c m G z))))
  | .and a b, m, G, .BoolOp .And (x :: y :: ys) pos => chkE a m G x && chkE b m G (.BoolOp .And (y :: ys) pos)
  | .or a b, m, G, .BoolOp .Or (x :: y :: ys) pos => chkE a m G x && chkE b m G (.BoolOp .Or (y :: ys) pos)
  | .one a, m, G, .BoolOp _ [x] _ => chkE a m G x
  | .ite c a b, m, G, .IfExp t x y _ => chkE c m G t && (chkE a m G x && chkE b m G y)
  | .tup es, m, G, .Tuple xs _ _ => chkA es m G xs
  | .lst es, m, G, .List xs _ => chkA es m G xs
  | .idx a b, m, G, .Subscript x y _ => nslc y && (chkE a m G x && chkE b m G y)
  | .slc a lo hi, m, G, .Subscript x (.Slice l h none _) _ => chkE a m G x && (chkO lo m G l && chkO hi m G h)
  | .call fn es, m, G, .Call (.Name x _) xs [] _ => decide (tb.fns[fn]? = some x) && (glB G x && (dbgB x && (xs.all nst && chkA es m G xs)))
  | .blt b es, m, G, .Call (.Name x _) (y :: ys) [] _ => decide (x = b.nm) && (glB G x && (decide (x ∈ tb.free) && ((y :: ys).all nst && chkA es m G (y :: ys))))
  | .mth mt o es, m, G, .Call (.Attribute y a apos) (z :: zs) [] pos => decide (a = mt.nm) && (nsup y && ((apos.endLine == pos.line) && ((z :: zs).all nst && (decide ((z :: zs).length < 30) && (chkE o m G y && chkA es m G (z :: zs))))))
  | .lc own p it c e, m, G, .ListComp elt [⟨tg, iter, ifs, ia⟩] scope _ => decide (ia = 0) && (blkB G scope own && ((slotsP p).all (fun i => decide (i ∈ own)) && (nset iter && (chkI it m G iter &&
      (!isRow p && (chkP (blkG G scope own) p [tg] && (chkC c m (blkG G scope own) ifs && chkE e m (blkG G scope own) elt)))))))
  | .allG own p it e, m, G, .Call (.Name x _) [.GeneratorExp elt [⟨tg, iter, ifs, ia⟩] scope _] [] _ => decide (x = Str.ofString "all") && (decide (ia = 0) && (ifs.isEmpty && (decide (0 < m) && (glB G x && (decide (x ∈ tb.free) && (genB G scope own &&
      ((slotsP p).all (fun i => decide (i ∈ own)) && (nlst iter && (chkI it m G iter && (!isRow p && (chkP (genG G scope own) p [tg] && chkE e 0 (genG G scope own) elt)))))))))))
  | _, _, _, _ => false
def chkC : E → Nat → Gx → List Expr → Bool
  | .miss, _, _, [] => true
  | .one a, m, G, [x] => chkE a m G x
  | _, _, _, _ => false
def chkA : E → Nat → Gx → List Expr → Bool
  | .nil, _, _, [] => true
  | .cons a as, m, G, x :: xs => nst x && (chkE a m G x && chkA as m G xs)
  | _, _, _, _ => false
def chkO : E → Nat → Gx → Option Expr → Bool
  | .miss, _, _, none => true
  | .one a, m, G, some x => chkE a m G x
  | _, _, _, _ => false
def chkI : E → Nat → Gx → Expr → Bool
  | .range1 a, m, G, .Call (.Name x _) [y] [] _ => decide (x = Str.ofString "range") && (glB G x && (decide (x ∈ tb.free) && (nst y && chkE a m G y)))
  | .range2 a b, m, G, .Call (.Name x _) [y, z] [] _ => decide (x = Str.ofString "range") && (glB G x && (decide (x ∈ tb.free) && (nst y && (nst z && (chkE a m G y && chkE b m G z)))))
  | .seqI a, m, G, x => chkE a m G x
  | _, _, _, _ => false
end
end
section
variable {tb : Tb} {tabs : List Addr} {k m : Nat} {T : Nat → List D → Sto → Res D} {CX : CXT} {XI : XIT} {G : Gx} {XQ : XQT} {X : Cx}
theorem gl_of (g : Good tb tabs k m T CX XI G XQ X) {x : Str} (h : glB G x = true) : Gl X x := by
  have h := of_decide_eq_true h
  show X.env.scope.names.lookup x = _
  rw [g.sc]; exact h
theorem okE_tyc {n : String} {p : Pos} (hg : Gl X (Str.ofString n)) (hm : X.mg (Str.ofString n) = none) (hn : n ∈ tyNames) (hd : dbgB (Str.ofString n) = true) : OkE tabs XQ X (.Name (Str.ofString n) p) (fun _ S => .ok (.ty n) S) :=
  ⟨tC (.ty n), ⟨fun pins s σ H Q I h => ld_blt I hg hm (ty_boot n hn) ⟨.ty n, H, I, rfl, h⟩ (ty_nm n hn) (by simpa [dbgB] using hd)⟩, fun f S H σ ρ Q R e h => h.ok R (.ty n)⟩
theorem okE_glo (g : Good tb tabs k m T CX XI G XQ X) {x : Str} {d : D} {p : Pos} (hg : Gl X x) (hm : (x, d) ∈ tb.glo) (hd : dbgB x = true) : OkE tabs XQ X (.Name x p) (fun _ S => .ok d S) := by
  obtain ⟨u, v, h1, h2, h3⟩ := g.gl.glo _ hm
  exact ⟨tC v, pe_glob hg h1 h2 (by simpa [dbgB] using hd), fun f S H σ ρ Q R e h => h.ok R (h3 f H)⟩

/-- every check of e tells what e says -/
structure Snd (tb : Tb) (tabs : List Addr) (k : Nat) (T : Nat → List D → Sto → Res D) (CX : CXT) (XI : XIT) (ee : E) : Prop where
  e : ∀ m G XQ X x, Good tb tabs k m T CX XI G XQ X → chkE tb ee m G x = true → OkE tabs XQ X x (evE T ee)
  t : ∀ m G XQ X x, Good tb tabs k m T CX XI G XQ X → chkE tb ee m G x = true → OkT tabs XQ X x (evT T ee)
  w : ∀ m G XQ X op vs pos, Good tb tabs k m T CX XI G XQ X → chkE tb ee m G (.BoolOp op vs pos) = true → OkW tabs XQ X (.BoolOp op vs pos) (evT T ee)
  c : ∀ m G XQ X xs, Good tb tabs k m T CX XI G XQ X → chkC tb ee m G xs = true → OkC tabs XQ X xs (evC T ee)
  a : ∀ m G XQ X xs, Good tb tabs k m T CX XI G XQ X → chkA tb ee m G xs = true → OkA tabs XQ X xs (evA T ee)
  o : ∀ m G XQ X x, Good tb tabs k m T CX XI G XQ X → chkO tb ee m G x = true → OkO tabs XQ X x (evO T ee)
  i : ∀ m G XQ X tg x, Good tb tabs k m T CX XI G XQ X → chkI tb ee m G x = true → OkI tabs XQ X tg x (evI T ee)
/-- the parts of a check -/
theorem and1 {a b : Bool} (h : (a && b) = true) : a = true ∧ b = true := by rwa [Bool.and_eq_true] at h
variable {a b c d : E}
theorem snd_var (i : Nat) : Snd tb tabs k T CX XI (.var i) := by
  have key : ∀ m G XQ X x, Good tb tabs k m T CX XI G XQ X → chkE tb (.var i) m G x = true → OkE tabs XQ X x (evE T (.var i)) ∧ ntst x = true := by
    intro m G XQ X x g h
    cases x with
    | Name x pos =>
      have h : (decide (G.N[i]? = some x) && (visB G.sc x && (dbgB x && !(x == ("__classdict__" : Str))))) = true := h
      obtain ⟨h1, h⟩ := and1 h
      obtain ⟨h2, h⟩ := and1 h
      obtain ⟨h3, h4⟩ := and1 h
      exact ⟨okE_var (by rw [g.N]; exact of_decide_eq_true h1) (by rw [g.sc]; exact vis_of h2) (by simpa [dbgB] using h3) (by simpa using h4), rfl⟩
    | _ => exact nomatch (show false = true from h)
  exact ⟨fun m G XQ X x g h => (key m G XQ X x g h).1, fun m G XQ X x g h => okT_truth (key m G XQ X x g h).1 (key m G XQ X x g h).2, (fun _ _ _ _ _ _ _ _ h => nomatch (show false = true from h)), (fun _ _ _ _ _ _ h => nomatch (show false = true from h)), (fun _ _ _ _ _ _ h => nomatch (show false = true from h)), (fun _ _ _ _ _ _ h => nomatch (show false = true from h)), (fun _ _ _ _ _ _ _ h => nomatch (show false = true from h))⟩
theorem snd_con (cc : C) : Snd tb tabs k T CX XI (.con cc) := by
  have key : ∀ m G XQ X x, Good tb tabs k m T CX XI G XQ X → chkE tb (.con cc) m G x = true → OkE tabs XQ X x (evE T (.con cc)) ∧ ntst x = true := by
    intro m G XQ X x g h
    cases x with
    | Constant kc j pos =>
      have h : conB cc kc = true := h
      refine ⟨okE_con ?_, rfl⟩
      unfold conB at h
      cases cc <;> cases kc <;> first | exact h | exact nomatch h
    | _ => exact nomatch (show false = true from h)
  exact ⟨fun m G XQ X x g h => (key m G XQ X x g h).1, fun m G XQ X x g h => okT_truth (key m G XQ X x g h).1 (key m G XQ X x g h).2, (fun _ _ _ _ _ _ _ _ h => nomatch (show false = true from h)), (fun _ _ _ _ _ _ h => nomatch (show false = true from h)), (fun _ _ _ _ _ _ h => nomatch (show false = true from h)), (fun _ _ _ _ _ _ h => nomatch (show false = true from h)), (fun _ _ _ _ _ _ _ h => nomatch (show false = true from h))⟩
theorem snd_tyc (n : String) : Snd tb tabs k T CX XI (.tyc n) := by
  refine ⟨fun m G XQ X x g h => ?_, (fun _ _ _ _ _ _ _ => okT_bad), (fun _ _ _ _ _ _ _ _ h => nomatch (show false = true from h)), (fun _ _ _ _ _ _ h => nomatch (show false = true from h)), (fun _ _ _ _ _ _ h => nomatch (show false = true from h)), (fun _ _ _ _ _ _ h => nomatch (show false = true from h)), (fun _ _ _ _ _ _ _ h => nomatch (show false = true from h))⟩
  cases x with
  | Name x pos =>
    have h : (decide (x = Str.ofString n) && (decide (n ∈ tyNames) && (glB G x && (decide (x ∈ tb.free) && dbgB x)))) = true := h
    obtain ⟨h1, h⟩ := and1 h
    obtain ⟨h2, h⟩ := and1 h
    obtain ⟨h3, h⟩ := and1 h
    obtain ⟨h4, h5⟩ := and1 h
    have h1 := of_decide_eq_true h1
    subst h1
    exact okE_tyc (gl_of g h3) (g.gl.free _ (of_decide_eq_true h4)) (of_decide_eq_true h2) h5
  | _ => exact nomatch (show false = true from h)
theorem snd_glo (y : Str) (dd : D) : Snd tb tabs k T CX XI (.glo y dd) := by
  refine ⟨fun m G XQ X x g h => ?_, (fun _ _ _ _ _ _ _ => okT_bad), (fun _ _ _ _ _ _ _ _ h => nomatch (show false = true from h)), (fun _ _ _ _ _ _ h => nomatch (show false = true from h)), (fun _ _ _ _ _ _ h => nomatch (show false = true from h)), (fun _ _ _ _ _ _ h => nomatch (show false = true from h)), (fun _ _ _ _ _ _ _ h => nomatch (show false = true from h))⟩
  cases x with
  | Name x pos =>
    have h : (decide (x = y) && (glB G x && (decide ((y, dd) ∈ tb.glo) && dbgB x))) = true := h
    obtain ⟨h1, h⟩ := and1 h
    obtain ⟨h2, h⟩ := and1 h
    obtain ⟨h3, h4⟩ := and1 h
    have h1 := of_decide_eq_true h1
    subst h1
    exact okE_glo g (gl_of g h2) (of_decide_eq_true h3) h4
  | _ => exact nomatch (show false = true from h)
theorem snd_bin (op : Operator) (A : Snd tb tabs k T CX XI a) (B : Snd tb tabs k T CX XI b) : Snd tb tabs k T CX XI (.bin op a b) := by
  refine ⟨fun m G XQ X x g h => ?_, (fun _ _ _ _ _ _ _ => okT_bad), (fun _ _ _ _ _ _ _ _ h => nomatch (show false = true from h)), (fun _ _ _ _ _ _ h => nomatch (show false = true from h)), (fun _ _ _ _ _ _ h => nomatch (show false = true from h)), (fun _ _ _ _ _ _ h => nomatch (show false = true from h)), (fun _ _ _ _ _ _ _ h => nomatch (show false = true from h))⟩
  cases x with
  | BinOp x op' y pos =>
    have h : (decide (op' = op) && (chkE tb a m G x && chkE tb b m G y)) = true := h
    obtain ⟨h1, h⟩ := and1 h
    obtain ⟨h2, h3⟩ := and1 h
    have h1 := of_decide_eq_true h1
    subst h1
    exact okE_bin (A.e _ _ _ _ _ g h2) (B.e _ _ _ _ _ g h3)
  | _ => exact nomatch (show false = true from h)
theorem snd_neg (A : Snd tb tabs k T CX XI a) : Snd tb tabs k T CX XI (.neg a) := by
  refine ⟨fun m G XQ X x g h => ?_, (fun _ _ _ _ _ _ _ => okT_bad), (fun _ _ _ _ _ _ _ _ h => nomatch (show false = true from h)), (fun _ _ _ _ _ _ h => nomatch (show false = true from h)), (fun _ _ _ _ _ _ h => nomatch (show false = true from h)), (fun _ _ _ _ _ _ h => nomatch (show false = true from h)), (fun _ _ _ _ _ _ _ h => nomatch (show false = true from h))⟩
  cases x with
  | UnaryOp op x pos =>
    cases op with
    | USub => exact okE_neg (A.e _ _ _ _ _ g h)
    | _ => exact nomatch (show false = true from h)
  | _ => exact nomatch (show false = true from h)
theorem snd_not (A : Snd tb tabs k T CX XI a) : Snd tb tabs k T CX XI (.not a) := by
  refine ⟨fun m G XQ X x g h => ?_, fun m G XQ X x g h => ?_, (fun _ _ _ _ _ _ _ _ h => nomatch (show false = true from h)), (fun _ _ _ _ _ _ h => nomatch (show false = true from h)), (fun _ _ _ _ _ _ h => nomatch (show false = true from h)), (fun _ _ _ _ _ _ h => nomatch (show false = true from h)), (fun _ _ _ _ _ _ _ h => nomatch (show false = true from h))⟩
  · cases x with
    | UnaryOp op x pos =>
      cases op with
      | Not => exact okE_not (A.e _ _ _ _ _ g h)
      | _ => exact nomatch (show false = true from h)
    | _ => exact nomatch (show false = true from h)
  · cases x with
    | UnaryOp op x pos =>
      cases op with
      | Not => exact okT_not (A.t _ _ _ _ _ g h)
      | _ => exact nomatch (show false = true from h)
    | _ => exact nomatch (show false = true from h)
theorem snd_cmp (op : CmpOp) (A : Snd tb tabs k T CX XI a) (B : Snd tb tabs k T CX XI b) : Snd tb tabs k T CX XI (.cmp op a b) := by
  have key : ∀ m G XQ X x, Good tb tabs k m T CX XI G XQ X → chkE tb (.cmp op a b) m G x = true → OkE tabs XQ X x (evE T (.cmp op a b)) ∧ OkT tabs XQ X x (evT T (.cmp op a b)) := by
    intro m G XQ X x g h
    cases x with
    | Compare x ops ys pos =>
      cases ops with
      | nil => exact nomatch (show false = true from h)
      | cons op' ops =>
        cases ops with
        | cons _ _ => exact nomatch (show false = true from h)
        | nil =>
          cases ys with
          | nil => exact nomatch (show false = true from h)
          | cons y ys =>
            cases ys with
            | cons _ _ => exact nomatch (show false = true from h)
            | nil =>
              have h : (decide (op' = op) && (nset y && (chkE tb a m G x && chkE tb b m G y))) = true := h
              obtain ⟨h1, h⟩ := and1 h
              obtain ⟨h2, h⟩ := and1 h
              obtain ⟨h3, h4⟩ := and1 h
              have h1 := of_decide_eq_true h1
              subst h1
              exact ⟨okE_cmp (Rl.room g) h2 (A.e _ _ _ _ _ g h3) (B.e _ _ _ _ _ g h4), okT_cmp (Rl.room g) h2 (A.e _ _ _ _ _ g h3) (B.e _ _ _ _ _ g h4)⟩
    | _ => exact nomatch (show false = true from h)
  exact ⟨fun m G XQ X x g h => (key m G XQ X x g h).1, fun m G XQ X x g h => (key m G XQ X x g h).2, (fun _ _ _ _ _ _ _ _ h => nomatch (show false = true from h)), (fun _ _ _ _ _ _ h => nomatch (show false = true from h)), (fun _ _ _ _ _ _ h => nomatch (show false = true from h)), (fun _ _ _ _ _ _ h => nomatch (show false = true from h)), (fun _ _ _ _ _ _ _ h => nomatch (show false = true from h))⟩
theorem snd_cmp2 (op op' : CmpOp) (A : Snd tb tabs k T CX XI a) (B : Snd tb tabs k T CX XI b) (Cc : Snd tb tabs k T CX XI c) : Snd tb tabs k T CX XI (.cmp2 op op' a b c) := by
  have key : ∀ m G XQ X x, Good tb tabs k m T CX XI G XQ X → chkE tb (.cmp2 op op' a b c) m G x = true → OkE tabs XQ X x (evE T (.cmp2 op op' a b c)) ∧ OkT tabs XQ X x (evT T (.cmp2 op op' a b c)) := by
    intro m G XQ X x g h
    cases x with
    | Compare x ops ys pos =>
      cases ops with
      | nil => exact nomatch (show false = true from h)
      | cons o1 ops =>
        cases ops with
        | nil => exact nomatch (show false = true from h)
        | cons o2 ops =>
          cases ops with
          | cons _ _ => exact nomatch (show false = true from h)
          | nil =>
            cases ys with
            | nil => exact nomatch (show false = true from h)
            | cons y ys =>
              cases ys with
              | nil => exact nomatch (show false = true from h)
              | cons z ys =>
                cases ys with
                | cons _ _ => exact nomatch (show false = true from h)
                | nil =>
                  have h : (decide (o1 = op) && (decide (o2 = op') && (nset z && (chkE tb a m G x && (chkE tb b m G y && chkE tb c m G z))))) = true := h
                  obtain ⟨h1, h⟩ := and1 h
                  obtain ⟨h2, h⟩ := and1 h
                  obtain ⟨h3, h⟩ := and1 h
                  obtain ⟨h4, h⟩ := and1 h
                  obtain ⟨h5, h6⟩ := and1 h
                  have h1 := of_decide_eq_true h1
                  have h2 := of_decide_eq_true h2
                  subst h1 h2
                  exact ⟨okE_cmp2 (Rl.room g) h3 (A.e _ _ _ _ _ g h4) (B.e _ _ _ _ _ g h5) (Cc.e _ _ _ _ _ g h6), okT_cmp2 (Rl.room g) h3 (A.e _ _ _ _ _ g h4) (B.e _ _ _ _ _ g h5) (Cc.e _ _ _ _ _ g h6)⟩
    | _ => exact nomatch (show false = true from h)
  exact ⟨fun m G XQ X x g h => (key m G XQ X x g h).1, fun m G XQ X x g h => (key m G XQ X x g h).2, (fun _ _ _ _ _ _ _ _ h => nomatch (show false = true from h)), (fun _ _ _ _ _ _ h => nomatch (show false = true from h)), (fun _ _ _ _ _ _ h => nomatch (show false = true from h)), (fun _ _ _ _ _ _ h => nomatch (show false = true from h)), (fun _ _ _ _ _ _ _ h => nomatch (show false = true from h))⟩
theorem snd_and (A : Snd tb tabs k T CX XI a) (B : Snd tb tabs k T CX XI b) : Snd tb tabs k T CX XI (.and a b) := by
  have key : ∀ m G XQ X op vs pos, Good tb tabs k m T CX XI G XQ X → chkE tb (.and a b) m G (.BoolOp op vs pos) = true → OkE tabs XQ X (.BoolOp op vs pos) (evE T (.and a b)) ∧ OkW tabs XQ X (.BoolOp op vs pos) (evT T (.and a b)) := by
    intro m G XQ X op vs pos g h
    cases op with
    | Or => exact nomatch (show false = true from h)
    | And =>
      cases vs with
      | nil => exact nomatch (show false = true from h)
      | cons x vs =>
        cases vs with
        | nil => exact nomatch (show false = true from h)
        | cons y vs =>
          have h : (chkE tb a m G x && chkE tb b m G (.BoolOp .And (y :: vs) pos)) = true := h
          obtain ⟨h1, h2⟩ := and1 h
          exact ⟨okE_and (A.e _ _ _ _ _ g h1) (B.e _ _ _ _ _ g h2), okW_and (A.t _ _ _ _ _ g h1) (B.w _ _ _ _ _ _ _ g h2)⟩
  refine ⟨fun m G XQ X x g h => ?_, fun m G XQ X x g h => ?_, fun m G XQ X op vs pos g h => (key m G XQ X op vs pos g h).2, (fun _ _ _ _ _ _ h => nomatch (show false = true from h)), (fun _ _ _ _ _ _ h => nomatch (show false = true from h)), (fun _ _ _ _ _ _ h => nomatch (show false = true from h)), (fun _ _ _ _ _ _ _ h => nomatch (show false = true from h))⟩
  · cases x with
    | BoolOp op vs pos => exact (key m G XQ X op vs pos g h).1
    | _ => exact nomatch (show false = true from h)
  · cases x with
    | BoolOp op vs pos => exact (key m G XQ X op vs pos g h).2.t
    | _ => exact nomatch (show false = true from h)
theorem snd_or (A : Snd tb tabs k T CX XI a) (B : Snd tb tabs k T CX XI b) : Snd tb tabs k T CX XI (.or a b) := by
  have key : ∀ m G XQ X op vs pos, Good tb tabs k m T CX XI G XQ X → chkE tb (.or a b) m G (.BoolOp op vs pos) = true → OkE tabs XQ X (.BoolOp op vs pos) (evE T (.or a b)) ∧ OkW tabs XQ X (.BoolOp op vs pos) (evT T (.or a b)) := by
    intro m G XQ X op vs pos g h
    cases op with
    | And => exact nomatch (show false = true from h)
    | Or =>
      cases vs with
      | nil => exact nomatch (show false = true from h)
      | cons x vs =>
        cases vs with
        | nil => exact nomatch (show false = true from h)
        | cons y vs =>
          have h : (chkE tb a m G x && chkE tb b m G (.BoolOp .Or (y :: vs) pos)) = true := h
          obtain ⟨h1, h2⟩ := and1 h
          exact ⟨okE_or (A.e _ _ _ _ _ g h1) (B.e _ _ _ _ _ g h2), okW_or (A.t _ _ _ _ _ g h1) (B.w _ _ _ _ _ _ _ g h2)⟩
  refine ⟨fun m G XQ X x g h => ?_, fun m G XQ X x g h => ?_, fun m G XQ X op vs pos g h => (key m G XQ X op vs pos g h).2, (fun _ _ _ _ _ _ h => nomatch (show false = true from h)), (fun _ _ _ _ _ _ h => nomatch (show false = true from h)), (fun _ _ _ _ _ _ h => nomatch (show false = true from h)), (fun _ _ _ _ _ _ _ h => nomatch (show false = true from h))⟩
  · cases x with
    | BoolOp op vs pos => exact (key m G XQ X op vs pos g h).1
    | _ => exact nomatch (show false = true from h)
  · cases x with
    | BoolOp op vs pos => exact (key m G XQ X op vs pos g h).2.t
    | _ => exact nomatch (show false = true from h)
theorem snd_one (A : Snd tb tabs k T CX XI a) : Snd tb tabs k T CX XI (.one a) := by
  have key : ∀ m G XQ X op vs pos, Good tb tabs k m T CX XI G XQ X → chkE tb (.one a) m G (.BoolOp op vs pos) = true → OkE tabs XQ X (.BoolOp op vs pos) (evE T (.one a)) ∧ OkW tabs XQ X (.BoolOp op vs pos) (evT T (.one a)) := by
    intro m G XQ X op vs pos g h
    cases vs with
    | nil => exact nomatch (show false = true from h)
    | cons x vs =>
      cases vs with
      | cons _ _ => exact nomatch (show false = true from h)
      | nil =>
        have h : chkE tb a m G x = true := h
        cases op with
        | And => exact ⟨okE_one (A.e _ _ _ _ _ g h), okW_and1 (A.t _ _ _ _ _ g h)⟩
        | Or => exact ⟨okE_one (A.e _ _ _ _ _ g h), okW_or1 (A.t _ _ _ _ _ g h)⟩
  refine ⟨fun m G XQ X x g h => ?_, fun m G XQ X x g h => ?_, fun m G XQ X op vs pos g h => (key m G XQ X op vs pos g h).2, fun m G XQ X xs g h => ?_, (fun _ _ _ _ _ _ h => nomatch (show false = true from h)), fun m G XQ X x g h => ?_, (fun _ _ _ _ _ _ _ h => nomatch (show false = true from h))⟩
  · cases x with
    | BoolOp op vs pos => exact (key m G XQ X op vs pos g h).1
    | _ => exact nomatch (show false = true from h)
  · cases x with
    | BoolOp op vs pos => exact (key m G XQ X op vs pos g h).2.t
    | _ => exact nomatch (show false = true from h)
  · cases xs with
    | nil => exact nomatch (show false = true from h)
    | cons x xs =>
      cases xs with
      | cons _ _ => exact nomatch (show false = true from h)
      | nil =>
        obtain ⟨t, p, s⟩ := A.t _ _ _ _ _ g (show chkE tb a m G x = true from h)
        exact ⟨t, pts_one p, s⟩
  · cases x with
    | none => exact nomatch (show false = true from h)
    | some x => exact okO_some (A.e _ _ _ _ _ g (show chkE tb a m G x = true from h))
theorem snd_ite (Cc : Snd tb tabs k T CX XI c) (A : Snd tb tabs k T CX XI a) (B : Snd tb tabs k T CX XI b) : Snd tb tabs k T CX XI (.ite c a b) := by
  refine ⟨fun m G XQ X x g h => ?_, (fun _ _ _ _ _ _ _ => okT_bad), (fun _ _ _ _ _ _ _ _ h => nomatch (show false = true from h)), (fun _ _ _ _ _ _ h => nomatch (show false = true from h)), (fun _ _ _ _ _ _ h => nomatch (show false = true from h)), (fun _ _ _ _ _ _ h => nomatch (show false = true from h)), (fun _ _ _ _ _ _ _ h => nomatch (show false = true from h))⟩
  cases x with
  | IfExp t x y pos =>
    have h : (chkE tb c m G t && (chkE tb a m G x && chkE tb b m G y)) = true := h
    obtain ⟨h1, h⟩ := and1 h
    obtain ⟨h2, h3⟩ := and1 h
    exact okE_ite (Cc.t _ _ _ _ _ g h1) (A.e _ _ _ _ _ g h2) (B.e _ _ _ _ _ g h3)
  | _ => exact nomatch (show false = true from h)
theorem snd_tup (A : Snd tb tabs k T CX XI a) : Snd tb tabs k T CX XI (.tup a) := by
  refine ⟨fun m G XQ X x g h => ?_, (fun _ _ _ _ _ _ _ => okT_bad), (fun _ _ _ _ _ _ _ _ h => nomatch (show false = true from h)), (fun _ _ _ _ _ _ h => nomatch (show false = true from h)), (fun _ _ _ _ _ _ h => nomatch (show false = true from h)), (fun _ _ _ _ _ _ h => nomatch (show false = true from h)), (fun _ _ _ _ _ _ _ h => nomatch (show false = true from h))⟩
  cases x with
  | Tuple xs j pos => exact okE_tup (A.a _ _ _ _ _ g h)
  | _ => exact nomatch (show false = true from h)
theorem snd_lst (A : Snd tb tabs k T CX XI a) : Snd tb tabs k T CX XI (.lst a) := by
  refine ⟨fun m G XQ X x g h => ?_, (fun _ _ _ _ _ _ _ => okT_bad), (fun _ _ _ _ _ _ _ _ h => nomatch (show false = true from h)), (fun _ _ _ _ _ _ h => nomatch (show false = true from h)), (fun _ _ _ _ _ _ h => nomatch (show false = true from h)), (fun _ _ _ _ _ _ h => nomatch (show false = true from h)), (fun _ _ _ _ _ _ _ h => nomatch (show false = true from h))⟩
  cases x with
  | List xs pos => exact okE_lst (A.a _ _ _ _ _ g h)
  | _ => exact nomatch (show false = true from h)
theorem snd_nil : Snd tb tabs k T CX XI .nil := by
  refine ⟨(fun _ _ _ _ _ _ h => nomatch (show false = true from h)), (fun _ _ _ _ _ _ _ => okT_bad), (fun _ _ _ _ _ _ _ _ h => nomatch (show false = true from h)), (fun _ _ _ _ _ _ h => nomatch (show false = true from h)), fun m G XQ X xs g h => ?_, (fun _ _ _ _ _ _ h => nomatch (show false = true from h)), (fun _ _ _ _ _ _ _ h => nomatch (show false = true from h))⟩
  cases xs with
  | nil => exact okA_nil
  | cons _ _ => exact nomatch (show false = true from h)
theorem snd_cons (A : Snd tb tabs k T CX XI a) (B : Snd tb tabs k T CX XI b) : Snd tb tabs k T CX XI (.cons a b) := by
  refine ⟨(fun _ _ _ _ _ _ h => nomatch (show false = true from h)), (fun _ _ _ _ _ _ _ => okT_bad), (fun _ _ _ _ _ _ _ _ h => nomatch (show false = true from h)), (fun _ _ _ _ _ _ h => nomatch (show false = true from h)), fun m G XQ X xs g h => ?_, (fun _ _ _ _ _ _ h => nomatch (show false = true from h)), (fun _ _ _ _ _ _ _ h => nomatch (show false = true from h))⟩
  cases xs with
  | nil => exact nomatch (show false = true from h)
  | cons x xs =>
    have h : (nst x && (chkE tb a m G x && chkA tb b m G xs)) = true := h
    obtain ⟨h1, h⟩ := and1 h
    obtain ⟨h2, h3⟩ := and1 h
    exact okA_cons h1 (A.e _ _ _ _ _ g h2) (B.a _ _ _ _ _ g h3)
theorem snd_idx (A : Snd tb tabs k T CX XI a) (B : Snd tb tabs k T CX XI b) : Snd tb tabs k T CX XI (.idx a b) := by
  have key : ∀ m G XQ X x, Good tb tabs k m T CX XI G XQ X → chkE tb (.idx a b) m G x = true → OkE tabs XQ X x (evE T (.idx a b)) ∧ ntst x = true := by
    intro m G XQ X x g h
    cases x with
    | Subscript x y pos =>
      have h : (nslc y && (chkE tb a m G x && chkE tb b m G y)) = true := h
      obtain ⟨h1, h⟩ := and1 h
      obtain ⟨h2, h3⟩ := and1 h
      exact ⟨okE_idx h1 (A.e _ _ _ _ _ g h2) (B.e _ _ _ _ _ g h3), rfl⟩
    | _ => exact nomatch (show false = true from h)
  exact ⟨fun m G XQ X x g h => (key m G XQ X x g h).1, fun m G XQ X x g h => okT_truth (key m G XQ X x g h).1 (key m G XQ X x g h).2, (fun _ _ _ _ _ _ _ _ h => nomatch (show false = true from h)), (fun _ _ _ _ _ _ h => nomatch (show false = true from h)), (fun _ _ _ _ _ _ h => nomatch (show false = true from h)), (fun _ _ _ _ _ _ h => nomatch (show false = true from h)), (fun _ _ _ _ _ _ _ h => nomatch (show false = true from h))⟩
theorem snd_slc (A : Snd tb tabs k T CX XI a) (B : Snd tb tabs k T CX XI b) (Cc : Snd tb tabs k T CX XI c) : Snd tb tabs k T CX XI (.slc a b c) := by
  refine ⟨fun m G XQ X x g h => ?_, (fun _ _ _ _ _ _ _ => okT_bad), (fun _ _ _ _ _ _ _ _ h => nomatch (show false = true from h)), (fun _ _ _ _ _ _ h => nomatch (show false = true from h)), (fun _ _ _ _ _ _ h => nomatch (show false = true from h)), (fun _ _ _ _ _ _ h => nomatch (show false = true from h)), (fun _ _ _ _ _ _ _ h => nomatch (show false = true from h))⟩
  cases x with
  | Subscript x y pos =>
    cases y with
    | Slice l hi st p2 =>
      cases st with
      | some _ => exact nomatch (show false = true from h)
      | none =>
        have h : (chkE tb a m G x && (chkO tb b m G l && chkO tb c m G hi)) = true := h
        obtain ⟨h1, h⟩ := and1 h
        obtain ⟨h2, h3⟩ := and1 h
        exact okE_slc (A.e _ _ _ _ _ g h1) (B.o _ _ _ _ _ g h2) (Cc.o _ _ _ _ _ g h3)
    | _ => exact nomatch (show false = true from h)
  | _ => exact nomatch (show false = true from h)
theorem snd_miss : Snd tb tabs k T CX XI .miss := by
  refine ⟨(fun _ _ _ _ _ _ h => nomatch (show false = true from h)), (fun _ _ _ _ _ _ _ => okT_bad), (fun _ _ _ _ _ _ _ _ h => nomatch (show false = true from h)), fun m G XQ X xs g h => ?_, (fun _ _ _ _ _ _ h => nomatch (show false = true from h)), fun m G XQ X x g h => ?_, (fun _ _ _ _ _ _ _ h => nomatch (show false = true from h))⟩
  · cases xs with
    | nil => exact ⟨_, pts_nil, fun f S H σ ρ Q R e h => h.ok R rfl⟩
    | cons _ _ => exact nomatch (show false = true from h)
  · cases x with
    | none => exact okO_none
    | some _ => exact nomatch (show false = true from h)
theorem chkA_nil {e : E} {m : Nat} {G : Gx} (h : chkA tb e m G [] = true) : e = .nil := by
  cases e <;> first | rfl | exact nomatch (show false = true from h)
theorem snd_call (fn : Nat) (A : Snd tb tabs k T CX XI a) : Snd tb tabs k T CX XI (.call fn a) := by
  have key : ∀ m G XQ X x, Good tb tabs k m T CX XI G XQ X → chkE tb (.call fn a) m G x = true → OkE tabs XQ X x (evE T (.call fn a)) ∧ ntst x = true := by
    intro m G XQ X x g h
    cases x with
    | Call f xs kws pos =>
      cases f with
      | Name x p =>
        cases kws with
        | cons _ _ => exact nomatch (show false = true from h)
        | nil =>
          have h : (decide (tb.fns[fn]? = some x) && (glB G x && (dbgB x && (xs.all nst && chkA tb a m G xs)))) = true := h
          obtain ⟨h1, h⟩ := and1 h
          obtain ⟨h2, h⟩ := and1 h
          obtain ⟨h3, h⟩ := and1 h
          obtain ⟨h4, h5⟩ := and1 h
          refine ⟨?_, rfl⟩
          cases xs with
          | nil =>
            have e := chkA_nil h5
            subst e
            exact okE_call0 g (of_decide_eq_true h1) (gl_of g h2) (by simpa [dbgB] using h3)
          | cons y ys => exact okE_call g (of_decide_eq_true h1) (gl_of g h2) (by simpa [dbgB] using h3) (A.a _ _ _ _ _ g h5) h4 (List.cons_ne_nil _ _)
      | _ => exact nomatch (show false = true from h)
    | _ => exact nomatch (show false = true from h)
  exact ⟨fun m G XQ X x g h => (key m G XQ X x g h).1, fun m G XQ X x g h => okT_truth (key m G XQ X x g h).1 (key m G XQ X x g h).2, (fun _ _ _ _ _ _ _ _ h => nomatch (show false = true from h)), (fun _ _ _ _ _ _ h => nomatch (show false = true from h)), (fun _ _ _ _ _ _ h => nomatch (show false = true from h)), (fun _ _ _ _ _ _ h => nomatch (show false = true from h)), (fun _ _ _ _ _ _ _ h => nomatch (show false = true from h))⟩
theorem snd_blt (bb : B) (A : Snd tb tabs k T CX XI a) : Snd tb tabs k T CX XI (.blt bb a) := by
  have key : ∀ m G XQ X x, Good tb tabs k m T CX XI G XQ X → chkE tb (.blt bb a) m G x = true → OkE tabs XQ X x (evE T (.blt bb a)) ∧ ntst x = true := by
    intro m G XQ X x g h
    cases x with
    | Call f xs kws pos =>
      cases f with
      | Name x p =>
        cases xs with
        | nil => exact nomatch (show false = true from h)
        | cons y ys =>
          cases kws with
          | cons _ _ => exact nomatch (show false = true from h)
          | nil =>
            have h : (decide (x = bb.nm) && (glB G x && (decide (x ∈ tb.free) && ((y :: ys).all nst && chkA tb a m G (y :: ys))))) = true := h
            obtain ⟨h1, h⟩ := and1 h
            obtain ⟨h2, h⟩ := and1 h
            obtain ⟨h3, h⟩ := and1 h
            obtain ⟨h4, h5⟩ := and1 h
            have h1 := of_decide_eq_true h1
            subst h1
            exact ⟨okE_blt (gl_of g h2) (g.gl.free _ (of_decide_eq_true h3)) (A.a _ _ _ _ _ g h5) h4 (List.cons_ne_nil _ _), rfl⟩
      | _ => exact nomatch (show false = true from h)
    | _ => exact nomatch (show false = true from h)
  exact ⟨fun m G XQ X x g h => (key m G XQ X x g h).1, fun m G XQ X x g h => okT_truth (key m G XQ X x g h).1 (key m G XQ X x g h).2, (fun _ _ _ _ _ _ _ _ h => nomatch (show false = true from h)), (fun _ _ _ _ _ _ h => nomatch (show false = true from h)), (fun _ _ _ _ _ _ h => nomatch (show false = true from h)), (fun _ _ _ _ _ _ h => nomatch (show false = true from h)), (fun _ _ _ _ _ _ _ h => nomatch (show false = true from h))⟩
theorem snd_mth (mt : Mt) (B : Snd tb tabs k T CX XI b) (A : Snd tb tabs k T CX XI a) : Snd tb tabs k T CX XI (.mth mt b a) := by
  have key : ∀ m G XQ X x, Good tb tabs k m T CX XI G XQ X → chkE tb (.mth mt b a) m G x = true → OkE tabs XQ X x (evE T (.mth mt b a)) ∧ ntst x = true := by
    intro m G XQ X x g h
    cases x with
    | Call f xs kws pos =>
      cases f with
      | Attribute y at_ apos =>
        cases xs with
        | nil => exact nomatch (show false = true from h)
        | cons z zs =>
          cases kws with
          | cons _ _ => exact nomatch (show false = true from h)
          | nil =>
            have h : (decide (at_ = mt.nm) && (nsup y && ((apos.endLine == pos.line) && ((z :: zs).all nst && (decide ((z :: zs).length < 30) && (chkE tb b m G y && chkA tb a m G (z :: zs))))))) = true := h
            obtain ⟨h1, h⟩ := and1 h
            obtain ⟨h2, h⟩ := and1 h
            obtain ⟨h3, h⟩ := and1 h
            obtain ⟨h4, h⟩ := and1 h
            obtain ⟨h5, h⟩ := and1 h
            obtain ⟨h6, h7⟩ := and1 h
            have h1 := of_decide_eq_true h1
            subst h1
            exact ⟨okE_mth h2 h3 (B.e _ _ _ _ _ g h6) (A.a _ _ _ _ _ g h7) h4 (List.cons_ne_nil _ _) (of_decide_eq_true h5), rfl⟩
      | _ => exact nomatch (show false = true from h)
    | _ => exact nomatch (show false = true from h)
  exact ⟨fun m G XQ X x g h => (key m G XQ X x g h).1, fun m G XQ X x g h => okT_truth (key m G XQ X x g h).1 (key m G XQ X x g h).2, (fun _ _ _ _ _ _ _ _ h => nomatch (show false = true from h)), (fun _ _ _ _ _ _ h => nomatch (show false = true from h)), (fun _ _ _ _ _ _ h => nomatch (show false = true from h)), (fun _ _ _ _ _ _ h => nomatch (show false = true from h)), (fun _ _ _ _ _ _ _ h => nomatch (show false = true from h))⟩
theorem snd_range1 (A : Snd tb tabs k T CX XI a) : Snd tb tabs k T CX XI (.range1 a) := by
  refine ⟨(fun _ _ _ _ _ _ h => nomatch (show false = true from h)), (fun _ _ _ _ _ _ _ => okT_bad), (fun _ _ _ _ _ _ _ _ h => nomatch (show false = true from h)), (fun _ _ _ _ _ _ h => nomatch (show false = true from h)), (fun _ _ _ _ _ _ h => nomatch (show false = true from h)), (fun _ _ _ _ _ _ h => nomatch (show false = true from h)), fun m G XQ X tg x g h => ?_⟩
  cases x with
  | Call f xs kws pos =>
    cases f with
    | Name x p =>
      cases xs with
      | nil => exact nomatch (show false = true from h)
      | cons y ys =>
        cases ys with
        | cons _ _ => exact nomatch (show false = true from h)
        | nil =>
          cases kws with
          | cons _ _ => exact nomatch (show false = true from h)
          | nil =>
            have h : (decide (x = Str.ofString "range") && (glB G x && (decide (x ∈ tb.free) && (nst y && chkE tb a m G y)))) = true := h
            obtain ⟨h1, h⟩ := and1 h
            obtain ⟨h2, h⟩ := and1 h
            obtain ⟨h3, h⟩ := and1 h
            obtain ⟨h4, h5⟩ := and1 h
            have h1 := of_decide_eq_true h1
            subst h1
            exact okI_range1 (gl_of g h2) (g.gl.free _ (of_decide_eq_true h3)) h4 (A.e _ _ _ _ _ g h5)
    | _ => exact nomatch (show false = true from h)
  | _ => exact nomatch (show false = true from h)
theorem snd_range2 (A : Snd tb tabs k T CX XI a) (B : Snd tb tabs k T CX XI b) : Snd tb tabs k T CX XI (.range2 a b) := by
  refine ⟨(fun _ _ _ _ _ _ h => nomatch (show false = true from h)), (fun _ _ _ _ _ _ _ => okT_bad), (fun _ _ _ _ _ _ _ _ h => nomatch (show false = true from h)), (fun _ _ _ _ _ _ h => nomatch (show false = true from h)), (fun _ _ _ _ _ _ h => nomatch (show false = true from h)), (fun _ _ _ _ _ _ h => nomatch (show false = true from h)), fun m G XQ X tg x g h => ?_⟩
  cases x with
  | Call f xs kws pos =>
    cases f with
    | Name x p =>
      cases xs with
      | nil => exact nomatch (show false = true from h)
      | cons y ys =>
        cases ys with
        | nil => exact nomatch (show false = true from h)
        | cons z ys =>
          cases ys with
          | cons _ _ => exact nomatch (show false = true from h)
          | nil =>
            cases kws with
            | cons _ _ => exact nomatch (show false = true from h)
            | nil =>
              have h : (decide (x = Str.ofString "range") && (glB G x && (decide (x ∈ tb.free) && (nst y && (nst z && (chkE tb a m G y && chkE tb b m G z)))))) = true := h
              obtain ⟨h1, h⟩ := and1 h
              obtain ⟨h2, h⟩ := and1 h
              obtain ⟨h3, h⟩ := and1 h
              obtain ⟨h4, h⟩ := and1 h
              obtain ⟨h5, h⟩ := and1 h
              obtain ⟨h6, h7⟩ := and1 h
              have h1 := of_decide_eq_true h1
              subst h1
              exact okI_range2 (gl_of g h2) (g.gl.free _ (of_decide_eq_true h3)) h4 h5 (A.e _ _ _ _ _ g h6) (B.e _ _ _ _ _ g h7)
    | _ => exact nomatch (show false = true from h)
  | _ => exact nomatch (show false = true from h)
theorem snd_seqI (A : Snd tb tabs k T CX XI a) : Snd tb tabs k T CX XI (.seqI a) :=
  ⟨(fun _ _ _ _ _ _ h => nomatch (show false = true from h)), (fun _ _ _ _ _ _ _ => okT_bad), (fun _ _ _ _ _ _ _ _ h => nomatch (show false = true from h)), (fun _ _ _ _ _ _ h => nomatch (show false = true from h)), (fun _ _ _ _ _ _ h => nomatch (show false = true from h)), (fun _ _ _ _ _ _ h => nomatch (show false = true from h)), fun m G XQ X tg x g h => okI_seq (A.e _ _ _ _ _ g h)⟩
theorem lc_parts {own : List Nat} {p : P} (A : Snd tb tabs k T CX XI a) (B : Snd tb tabs k T CX XI b) (Cc : Snd tb tabs k T CX XI c) {G : Gx} {XQ : XQT} {X : Cx} {elt tg iter : Expr} {ifs : List Expr} {ia : Int} {scope : Scope} {pos : Pos}
    (g : Good tb tabs k m T CX XI G XQ X) (h : chkE tb (.lc own p a b c) m G (.ListComp elt [⟨tg, iter, ifs, ia⟩] scope pos) = true) : ia = 0 ∧ nset iter = true ∧ BlkOk X.N X.env.scope scope (ownP G.N own) ∧
    ∃ wi, PI X tg iter wi ∧ (∀ (s : Shared) (H : Hp) (C : Addr) (cl : List (Str × Addr)) (fp : List Addr), PG (X.blk s H scope (compEnvC scope cl C X.env) fp) tg (canP X.K tabs p)) ∧
      (∀ (s : Shared) (H : Hp) (C : Addr) (cl : List (Str × Addr)) (fp : List Addr), PTs (X.blk s H scope (compEnvC scope cl C X.env) fp) ifs (canC X.K tabs XQ0 (evC T b))) ∧
      (∀ (s : Shared) (H : Hp) (C : Addr) (cl : List (Str × Addr)) (fp : List Addr), PE (X.blk s H scope (compEnvC scope cl C X.env) fp) elt (canE X.K tabs XQ0 (evE T c))) ∧
      ∀ f S H σ ρ Q, Rl X.K tabs f S H → EnvIs X.K f H σ ρ → PostD X.K tabs f H (evE T (.lc own p a b c) ρ S) Q XQ → tLc wi (canP X.K tabs p) (canC X.K tabs XQ0 (evC T b)) (canE X.K tabs XQ0 (evE T c)) ((ownP G.N own).map (·.2)) σ H Q := by
  have h : (decide (ia = 0) && (blkB G scope own && ((slotsP p).all (fun i => decide (i ∈ own)) && (nset iter && (chkI tb a m G iter &&
    (!isRow p && (chkP (blkG G scope own) p [tg] && (chkC tb b m (blkG G scope own) ifs && chkE tb c m (blkG G scope own) elt)))))))) = true := h
  obtain ⟨h1, h⟩ := and1 h
  obtain ⟨h2, h⟩ := and1 h
  obtain ⟨h3, h⟩ := and1 h
  obtain ⟨h4, h⟩ := and1 h
  obtain ⟨h5, h⟩ := and1 h
  obtain ⟨h6, h⟩ := and1 h
  obtain ⟨h7, h⟩ := and1 h
  obtain ⟨h8, h9⟩ := and1 h
  have gb := fun (s : Shared) (H : Hp) (C : Addr) (cl : List (Str × Addr)) (fp : List Addr) => good_blk g h2 s H C cl fp
  obtain ⟨wi, pi, pg, pc, pe, rd⟩ := okE_lc (m := m) (p := p) (pos := pos) g h2 (fun i hi => of_decide_eq_true (List.all_eq_true.mp h3 i hi)) h4 (A.i _ _ _ _ tg _ g h5)
    (fun s H C cl fp => (okP (gb s H C cl fp) p).1 (by simpa using h6) tg h7) (fun s H C cl fp => B.c _ _ _ _ _ (gb s H C cl fp) h8) (fun s H C cl fp => Cc.e _ _ _ _ _ (gb s H C cl fp) h9)
  have hb := h2
  unfold blkB at hb
  have ok := blkOk_by (and1 hb).1
  refine ⟨of_decide_eq_true h1, h4, by rw [g.N, g.sc]; exact ok, wi, pi, pg, pc, pe, fun f S H σ ρ Q R e h => ?_⟩
  rw [ownP_snd]
  exact rd f S H σ ρ Q R e h
theorem snd_lc (own : List Nat) (p : P) (A : Snd tb tabs k T CX XI a) (B : Snd tb tabs k T CX XI b) (Cc : Snd tb tabs k T CX XI c) : Snd tb tabs k T CX XI (.lc own p a b c) := by
  refine ⟨fun m G XQ X x g h => ?_, (fun _ _ _ _ _ _ _ => okT_bad), (fun _ _ _ _ _ _ _ _ h => nomatch (show false = true from h)), (fun _ _ _ _ _ _ h => nomatch (show false = true from h)), (fun _ _ _ _ _ _ h => nomatch (show false = true from h)), (fun _ _ _ _ _ _ h => nomatch (show false = true from h)), (fun _ _ _ _ _ _ _ h => nomatch (show false = true from h))⟩
  cases x with
  | ListComp elt gens scope pos =>
    cases gens with
    | nil => exact nomatch (show false = true from h)
    | cons gn gens =>
      obtain ⟨tg, iter, ifs, ia⟩ := gn
      cases gens with
      | cons _ _ => exact nomatch (show false = true from h)
      | nil =>
        obtain ⟨rfl, h4, ok, wi, pi, pg, pc, pe, rd⟩ := lc_parts A B Cc g h
        exact ⟨_, pe_lc (own := ownP G.N own) g.calm (by rw [g.N]; exact g.nd) pi ok pg pc pe (fold_of h4), rd⟩
  | _ => exact nomatch (show false = true from h)
theorem snd_allG (own : List Nat) (p : P) (A : Snd tb tabs k T CX XI a) (B : Snd tb tabs k T CX XI b) : Snd tb tabs k T CX XI (.allG own p a b) := by
  have key : ∀ m G XQ X x, Good tb tabs k m T CX XI G XQ X → chkE tb (.allG own p a b) m G x = true → OkE tabs XQ X x (evE T (.allG own p a b)) ∧ ntst x = true := by
    intro m G XQ X x g h
    cases x with
    | Call f xs kws pos =>
      cases f with
      | Name x q =>
        cases xs with
        | nil => exact nomatch (show false = true from h)
        | cons y ys =>
          cases y with
          | GeneratorExp elt gens scope gpos =>
            cases gens with
            | nil => exact nomatch (show false = true from h)
            | cons gn gens =>
              obtain ⟨tg, iter, ifs, ia⟩ := gn
              cases gens with
              | cons _ _ => exact nomatch (show false = true from h)
              | nil =>
                cases ys with
                | cons _ _ => exact nomatch (show false = true from h)
                | nil =>
                  cases kws with
                  | cons _ _ => exact nomatch (show false = true from h)
                  | nil =>
                    have h : (decide (x = Str.ofString "all") && (decide (ia = 0) && (ifs.isEmpty && (decide (0 < m) && (glB G x && (decide (x ∈ tb.free) && (genB G scope own &&
                      ((slotsP p).all (fun i => decide (i ∈ own)) && (nlst iter && (chkI tb a m G iter && (!isRow p && (chkP (genG G scope own) p [tg] && chkE tb b 0 (genG G scope own) elt)))))))))))) = true := h
                    obtain ⟨h1, h⟩ := and1 h
                    obtain ⟨h2, h⟩ := and1 h
                    obtain ⟨h3, h⟩ := and1 h
                    obtain ⟨h4, h⟩ := and1 h
                    obtain ⟨h5, h⟩ := and1 h
                    obtain ⟨h6, h⟩ := and1 h
                    obtain ⟨h7, h⟩ := and1 h
                    obtain ⟨h8, h⟩ := and1 h
                    obtain ⟨h9, h⟩ := and1 h
                    obtain ⟨h10, h⟩ := and1 h
                    obtain ⟨h11, h⟩ := and1 h
                    obtain ⟨h12, h13⟩ := and1 h
                    have h1 := of_decide_eq_true h1
                    have h2 := of_decide_eq_true h2
                    have h3 := List.isEmpty_iff.mp h3
                    subst h1 h2 h3
                    obtain ⟨m', rfl⟩ : ∃ m', m = m' + 1 := ⟨m - 1, by have := of_decide_eq_true h4; omega⟩
                    exact ⟨okE_allG (m := m') (p := p) g (gl_of g h5) (g.gl.free _ (of_decide_eq_true h6)) h7 (fun i hi => of_decide_eq_true (List.all_eq_true.mp h8 i hi)) h9 (A.i _ _ _ _ tg _ g h10)
                      (fun X' g' _ => (okP g' p).1 (by simpa using h11) tg h12) (fun X' g' _ => B.e _ _ _ _ _ g' h13), rfl⟩
          | _ => exact nomatch (show false = true from h)
      | _ => exact nomatch (show false = true from h)
    | _ => exact nomatch (show false = true from h)
  exact ⟨fun m G XQ X x g h => (key m G XQ X x g h).1, fun m G XQ X x g h => okT_truth (key m G XQ X x g h).1 (key m G XQ X x g h).2, (fun _ _ _ _ _ _ _ _ h => nomatch (show false = true from h)), (fun _ _ _ _ _ _ h => nomatch (show false = true from h)), (fun _ _ _ _ _ _ h => nomatch (show false = true from h)), (fun _ _ _ _ _ _ h => nomatch (show false = true from h)), (fun _ _ _ _ _ _ _ h => nomatch (show false = true from h))⟩
theorem snd (e : E) : Snd tb tabs k T CX XI e := by
  induction e with
  | var i => exact snd_var i
  | con c => exact snd_con c
  | tyc n => exact snd_tyc n
  | glo x d => exact snd_glo x d
  | bin op a b A B => exact snd_bin op A B
  | neg a A => exact snd_neg A
  | not a A => exact snd_not A
  | cmp op a b A B => exact snd_cmp op A B
  | cmp2 op op' a b c A B C => exact snd_cmp2 op op' A B C
  | and a b A B => exact snd_and A B
  | or a b A B => exact snd_or A B
  | one a A => exact snd_one A
  | ite c a b C A B => exact snd_ite C A B
  | tup a A => exact snd_tup A
  | lst a A => exact snd_lst A
  | nil => exact snd_nil
  | cons a b A B => exact snd_cons A B
  | idx a b A B => exact snd_idx A B
  | slc a b c A B C => exact snd_slc A B C
  | miss => exact snd_miss
  | call fn a A => exact snd_call fn A
  | blt bb a A => exact snd_blt bb A
  | mth mt b a B A => exact snd_mth mt B A
  | range1 a A => exact snd_range1 A
  | range2 a b A B => exact snd_range2 A B
  | seqI a A => exact snd_seqI A
  | lc own p a b c A B C => exact snd_lc own p A B C
  | allG own p a b A B => exact snd_allG own p A B
end
end Rv

set_option Elab.async false
set_option linter.all false
set_option maxRecDepth 100000
set_option maxHeartbeats 4000000
/-! RvM: statements. -/
namespace Rv
open PySem PySem.Spec PyProof.Rows L2
/-- the statement's result r, wherever it comes to stand, is what the ends want -/
def PostS (K : PySem.W.Frag) (tabs f : List Addr) (H : Hp) (r : SR) (Dn : Ends) (XQ : XQT) : Prop := match r with
  | .next ρ S' => ∀ f' H' σ', Ext tabs f H f' H' → Rl K tabs f' S' H' → EnvIs K f' H' σ' ρ → Dn.nx σ' H'
  | .ret d S' => ∀ f' H' v, Ext tabs f H f' H' → Rl K tabs f' S' H' → Is K f' H' v d → Dn.rt v H'
  | .brk ρ S' => ∀ f' H' σ', Ext tabs f H f' H' → Rl K tabs f' S' H' → EnvIs K f' H' σ' ρ → Dn.bk σ' H'
  | .cnt ρ S' => ∀ f' H' σ', Ext tabs f H f' H' → Rl K tabs f' S' H' → EnvIs K f' H' σ' ρ → Dn.ct σ' H'
  | .exc x S' => ∀ f' H', Ext tabs f H f' H' → Rl K tabs f' S' H' → XQ x S' f' H'
  | .bad => False
section
variable {K : PySem.W.Frag} {tabs f f' : List Addr} {H H' : Hp} {S : Sto} {XQ : XQT} {Dn : Ends} {N : L2.St → Hp → Prop}
theorem PostS.mono {r : SR} (x : Ext tabs f H f' H') (h : PostS K tabs f H r Dn XQ) : PostS K tabs f' H' r Dn XQ := by
  cases r with
  | next ρ S' => exact fun f2 H2 v y => h f2 H2 v (x.trans y)
  | ret d S' => exact fun f2 H2 v y => h f2 H2 v (x.trans y)
  | brk ρ S' => exact fun f2 H2 v y => h f2 H2 v (x.trans y)
  | cnt ρ S' => exact fun f2 H2 v y => h f2 H2 v (x.trans y)
  | exc d S' => exact fun f2 H2 y => h f2 H2 (x.trans y)
  | bad => exact h
theorem PostS.sr {α β : Type} {rel : List Addr → Hp → β → α → Prop} {r : Res α} {k : α → Sto → SR} {Q1 : β → Hp → Prop} (h : PostS K tabs f H (r.sr k) Dn XQ)
    (hk : ∀ a S1 f1 H1 b, Ext tabs f H f1 H1 → Rl K tabs f1 S1 H1 → rel f1 H1 b a → PostS K tabs f1 H1 (k a S1) Dn XQ → Q1 b H1) : Post K tabs rel f H r Q1 XQ := by
  cases r with
  | ok d S' => exact fun f2 H2 v y R i => hk d S' f2 H2 v y R i (PostS.mono y h)
  | exc d S' => exact h
  | bad => exact h
theorem PostS.then {r : SR} {k : Env → Sto → SR} (h : PostS K tabs f H (r.then k) Dn XQ)
    (hk : ∀ ρ1 S1 f1 H1 σ1, Ext tabs f H f1 H1 → Rl K tabs f1 S1 H1 → EnvIs K f1 H1 σ1 ρ1 → PostS K tabs f1 H1 (k ρ1 S1) Dn XQ → N σ1 H1) : PostS K tabs f H r { Dn with nx := N } XQ := by
  cases r with
  | next ρ S' => exact fun f2 H2 v y R i => hk ρ S' f2 H2 v y R i (PostS.mono y h)
  | ret d S' => exact h
  | brk ρ S' => exact h
  | cnt ρ S' => exact h
  | exc d S' => exact h
  | bad => exact h
theorem PostS.turn {r : SR} {k : Env → Sto → SR} (h : PostS K tabs f H (r.turn k) Dn XQ)
    (hk : ∀ ρ1 S1 f1 H1 σ1, Ext tabs f H f1 H1 → Rl K tabs f1 S1 H1 → EnvIs K f1 H1 σ1 ρ1 → PostS K tabs f1 H1 (k ρ1 S1) Dn XQ → N σ1 H1) : PostS K tabs f H r { Dn with nx := N, ct := N, bk := Dn.nx } XQ := by
  cases r with
  | next ρ S' => exact fun f2 H2 v y R i => hk ρ S' f2 H2 v y R i (PostS.mono y h)
  | ret d S' => exact h
  | brk ρ S' => exact h
  | cnt ρ S' => exact fun f2 H2 v y R i => hk ρ S' f2 H2 v y R i (PostS.mono y h)
  | exc d S' => exact h
  | bad => exact h
end
def ntup : Expr → Bool
  | .Tuple .. => false
  | _ => true
/-- no pair of rows on both sides -/
def swB (t x : Expr) : Bool := match t with
  | .Name .. => true
  | .Subscript .. => true
  | .Tuple .. => ntup x
  | _ => false
theorem sw_none {t x : Expr} {env : PySem.Env} (h : swB t x = true) : swappedStores [t] x env = pure none := by
  cases t <;> first | exact nomatch (show false = true from h) | rfl | skip
  cases x <;> first | exact nomatch (show false = true from h) | rfl
def parB (G : Gx) (x y : Str) (px py : Pos) (a b : Expr) : Bool :=
  decide (G.sc.kind = .function) && (decide (G.sc.names.lookup x = some .local) && (decide (G.sc.names.lookup y = some .local) && ((py.line == px.line) && (!(x == y) && (nst a && (nst b && (!(foldedForSure 8 a && foldedForSure 8 b) && !(constantsAlone 8 a && constantsAlone 8 b))))))))
theorem swap_par {x y : Str} {px py pt pt2 : Pos} {kt k2 : Nat} {a b : Expr} {env : PySem.Env} {G : Gx} (hs : env.scope = G.sc) (h : parB G x y px py a b = true) :
    swappedStores [.Tuple [.Name x px, .Name y py] kt pt] (.Tuple [a, b] k2 pt2) env = pure (some [x, y]) := by
  unfold parB at h
  simp only [Bool.and_eq_true, decide_eq_true_eq, beq_iff_eq, Bool.not_eq_true'] at h
  obtain ⟨hk, hx, hy, hl, hxy, na, nb, hf, hc⟩ := h
  have ky : env.kindOf y = some .local := by unfold Env.kindOf; rw [hs]; exact hy
  have kx : env.kindOf x = some .local := by unfold Env.kindOf; rw [hs]; exact hx
  have hb : env.blockKind = .function := by unfold Env.blockKind; rw [hs, hk]; rfl
  have hxy' : (y == x) = false := by
    cases q : (y == x) with
    | false => rfl
    | true => rw [eq_of_beq q] at hxy; simp at hxy
  unfold swappedStores
  simp [hb, kx, ky, hl, Expr.pos, hf, hc, List.eraseDups_cons, hxy, hxy']
  rintro (h | h)
  · cases a <;> first | (cases na; done) | exact nomatch h
  · cases b <;> first | (cases nb; done) | exact nomatch h
section
variable (tb : Tb)
mutual
def chk1 : St → Nat → Gx → Stmt → Bool
  | .skip, _, _, .Pass _ => true
  | .skip, _, _, .Expr (.Constant (.str _) _ _) _ => true
  | .asg (.pt p) e, m, G, .Assign [tg] x _ => nlc x && (nst tg && (swB tg x && (!isRow p && (chkP G p [tg] && chkE tb e m G x))))
  | .asg (.sub o i) e, m, G, .Assign [.Subscript y z _] x _ => nlc x && (nslc z && (chkE tb o m G y && (chkE tb i m G z && chkE tb e m G x)))
  | .setlc i (.lc own p a b c), m, G, .Assign [.Name y py] (.ListComp elt [⟨tg, iter, ifs, ia⟩] scope pos) _ => decide (G.N[i]? = some y) && (decide (G.sc.kind = .function) && (decide (G.sc.names.lookup y = some .local) && ((py.line == pos.line) &&
      (!(scope.names.any fun (n, k) => n == y && (k == .local || k == .cell)) && chkE tb (.lc own p a b c) m G (.ListComp elt [⟨tg, iter, ifs, ia⟩] scope pos)))))
  | .par i j a b, m, G, .Assign [.Tuple [.Name x px, .Name y py] _ _] (.Tuple [u, v] _ _) _ => decide (G.N[i]? = some x) && (decide (G.N[j]? = some y) && (!(i == j) && (parB G x y px py u v && (chkE tb a m G u && chkE tb b m G v))))
  | .expr e, m, G, .Expr x _ => nlc x && chkE tb e m G x
  | .ret e, m, G, .Return (some x) _ => chkE tb e m G x
  | .retN, _, _, .Return none _ => true
  | .iff c a b, m, G, .If t p q _ => chkE tb c m G t && (chkS a m G p && chkS b m G q)
  | .whil _ c b, m, G, .While t p [] _ => chkE tb c m G t && chkS b m G p
  | .forr p it b, m, G, .For tg x q [] _ => nset x && (nst tg && (!isRow p && (chkP G p [tg] && (chkI tb it m G x && chkS b m G q))))
  | .brk, _, _, .Break _ => true
  | .cnt, _, _, .Continue _ => true
  | _, _, _, _ => false
def chkS : St → Nat → Gx → List Stmt → Bool
  | .skip, _, _, [] => true
  | .seq a b, m, G, st :: sts => chk1 a m G st && chkS b m G sts
  | _, _, _, _ => false
end
end
section
variable {tb : Tb} {tabs : List Addr} {k m : Nat} {T : Nat → List D → Sto → Res D} {CX : CXT} {XI : XIT} {G : Gx} {XQ : XQT} {X : Cx}
def Ok1 (tabs : List Addr) (XQ : XQT) (X : Cx) (st : Stmt) (n : Env → Sto → SR) : Prop :=
  ∃ t, PS X st t ∧ ∀ f S H σ ρ Dn, Rl X.K tabs f S H → EnvIs X.K f H σ ρ → PostS X.K tabs f H (n ρ S) Dn XQ → t Dn σ H
def OkS (tabs : List Addr) (XQ : XQT) (X : Cx) (sts : List Stmt) (n : Env → Sto → SR) : Prop :=
  ∃ t, PSs X sts t ∧ ∀ f S H σ ρ Dn, Rl X.K tabs f S H → EnvIs X.K f H σ ρ → PostS X.K tabs f H (n ρ S) Dn XQ → t Dn σ H
theorem next_ok {K : PySem.W.Frag} {f : List Addr} {S : Sto} {H : Hp} {σ : L2.St} {ρ : Env} {Dn : Ends} (h : PostS K tabs f H (.next ρ S) Dn XQ) (R : Rl K tabs f S H) (e : EnvIs K f H σ ρ) : Dn.nx σ H := h f H σ Ext.refl R e
theorem ok1_asg {p : P} {e : E} {tg x : Expr} {pos : Pos} (g : Good tb tabs k m T CX XI G XQ X) (h : chk1 tb (.asg (.pt p) e) m G (.Assign [tg] x pos) = true) : Ok1 tabs XQ X (.Assign [tg] x pos) (evS T (.asg (.pt p) e)) := by
  have h : (nlc x && (nst tg && (swB tg x && (!isRow p && (chkP G p [tg] && chkE tb e m G x))))) = true := h
  obtain ⟨h1, h⟩ := and1 h
  obtain ⟨h2, h⟩ := and1 h
  obtain ⟨h3, h⟩ := and1 h
  obtain ⟨h4, h⟩ := and1 h
  obtain ⟨h5, h6⟩ := and1 h
  obtain ⟨te, pe, se⟩ := (snd e).e _ _ _ _ _ g h6
  obtain ⟨gg, pg, sg⟩ := (okP g p).1 (by simpa using h4) tg h5
  refine ⟨_, ps_asg pe pg (sws_of h1) (sw_none h3) (asgs_cons h2), fun f S H σ ρ Dn R en q => ?_⟩
  refine se f S H σ ρ _ R en (PostS.sr q fun d S1 f1 H1 v x1 R1 i1 q1 => ?_)
  have q1 : PostS X.K tabs f1 H1 ((Res.of (bindP p [d] ρ) S1).sr fun ρ' S' => .next ρ' S') Dn XQ := q1
  cases qb : bindP p [d] ρ with
  | none => rw [qb] at q1; exact q1.elim
  | some ρ' =>
    rw [qb] at q1
    exact sg f1 S1 H1 σ ρ v d ρ' _ R1 (en.ext R x1) i1 qb fun σ' e' _ => next_ok q1 R1 e'
theorem ok1_sub {o i e : E} {y z x : Expr} {pos p2 : Pos} (g : Good tb tabs k m T CX XI G XQ X) (h : chk1 tb (.asg (.sub o i) e) m G (.Assign [.Subscript y z p2] x pos) = true) : Ok1 tabs XQ X (.Assign [.Subscript y z p2] x pos) (evS T (.asg (.sub o i) e)) := by
  have h : (nlc x && (nslc z && (chkE tb o m G y && (chkE tb i m G z && chkE tb e m G x)))) = true := h
  obtain ⟨h1, h⟩ := and1 h
  obtain ⟨h2, h⟩ := and1 h
  obtain ⟨h3, h⟩ := and1 h
  obtain ⟨h4, h5⟩ := and1 h
  obtain ⟨te, pe, se⟩ := (snd e).e _ _ _ _ _ g h5
  obtain ⟨to, po, so⟩ := (snd o).e _ _ _ _ _ g h3
  obtain ⟨ti, pi, si⟩ := (snd i).e _ _ _ _ _ g h4
  refine ⟨_, ps_asg pe (pg_sub po pi set_list (fun v => by cases z <;> first | rfl | exact nomatch h2)) (sws_of h1) (sw_none rfl) rfl, fun f S H σ ρ Dn R en q => ?_⟩
  refine se f S H σ ρ _ R en (PostS.sr q fun d S1 f1 H1 v x1 R1 i1 q1 => ?_)
  have q1 : PostS X.K tabs f1 H1 ((evE T o ρ S1).sr fun x S2 => (evE T i ρ S2).sr fun y S3 => (setD x y d S3).sr fun _ S4 => .next ρ S4) Dn XQ := q1
  refine so f1 S1 H1 σ ρ _ R1 (en.ext R x1) (PostS.sr q1 fun od S2 f2 H2 ov x2 R2 i2 q2 => ?_)
  refine si f2 S2 H2 σ ρ _ R2 ((en.ext R x1).ext R1 x2) (PostS.sr q2 fun id_ S3 f3 H3 iv x3 R3 i3 q3 => ?_)
  have i2 := i2.ext R2 x3
  have i1 := (i1.ext R1 x2).ext R2 x3
  have en3 := ((en.ext R x1).ext R1 x2).ext R2 x3
  unfold setD at q3
  cases od with
  | ref n =>
    cases id_ with
    | int kk =>
      dsimp only at q3
      cases hxs : S3[n]? with
      | none => rw [hxs] at q3; exact q3.elim
      | some oo =>
        cases oo with
        | lst xs =>
          rw [hxs] at q3
          dsimp only at q3
          cases hj : ixN xs.length kk with
          | none => rw [hj] at q3; exact q3.elim
          | some j =>
            rw [hj] at q3
            cases i2 with
            | ref ha =>
              cases i3
              obtain ⟨vs, hv, t⟩ := R3.lst hxs ha
              refine ⟨_, vs, kk, j, rfl, rfl, hv, by rw [t.length]; exact hj, ?_⟩
              obtain ⟨R4, x4⟩ := R3.put ha (IsL.set i1 j t)
              exact q3 f3 _ σ x4 R4 (en3.ext R3 x4)
    | _ => exact q3.elim
  | _ => exact q3.elim
theorem ok1_setlc {i : Nat} {own : List Nat} {p : P} {a b c : E} {y : Str} {py pos spos : Pos} {elt tg iter : Expr} {ifs : List Expr} {ia : Int} {scope : Scope} (g : Good tb tabs k m T CX XI G XQ X)
    (h : chk1 tb (.setlc i (.lc own p a b c)) m G (.Assign [.Name y py] (.ListComp elt [⟨tg, iter, ifs, ia⟩] scope pos) spos) = true) : Ok1 tabs XQ X (.Assign [.Name y py] (.ListComp elt [⟨tg, iter, ifs, ia⟩] scope pos) spos) (evS T (.setlc i (.lc own p a b c))) := by
  have h : (decide (G.N[i]? = some y) && (decide (G.sc.kind = .function) && (decide (G.sc.names.lookup y = some .local) && ((py.line == pos.line) &&
      (!(scope.names.any fun (n, k) => n == y && (k == .local || k == .cell)) && chkE tb (.lc own p a b c) m G (.ListComp elt [⟨tg, iter, ifs, ia⟩] scope pos)))))) = true := h
  obtain ⟨h1, h⟩ := and1 h
  obtain ⟨h2, h⟩ := and1 h
  obtain ⟨h3, h⟩ := and1 h
  obtain ⟨h4, h⟩ := and1 h
  obtain ⟨h5, h6⟩ := and1 h
  have h1 := of_decide_eq_true h1
  have h2 := of_decide_eq_true h2
  have h3 := of_decide_eq_true h3
  obtain ⟨rfl, h7, ok, wi, pi, pg, pc, pe, rd⟩ := lc_parts (snd a) (snd b) (snd c) g h6
  refine ⟨_, ps_setLc (i := i) g.calm (by rw [g.N]; exact g.nd) (by rw [g.N]; exact h1) (by rw [g.sc]; exact h3) (sw_true (by rw [g.sc]; exact h2) (by rw [g.sc]; exact h3) h4 (by simpa using h5)) pi ok pg pc pe (fold_of h7), fun f S H σ ρ Dn R en q => ?_⟩
  refine rd f S H σ ρ _ R en (PostS.sr q fun d S1 f1 H1 v x1 R1 i1 q1 => ?_)
  exact next_ok q1 R1 ((en.ext R x1).set i i1)
theorem ok1_par {i j : Nat} {a b : E} {x y : Str} {px py pt pt2 pos : Pos} {kt k2 : Nat} {u v : Expr} (g : Good tb tabs k m T CX XI G XQ X)
    (h : chk1 tb (.par i j a b) m G (.Assign [.Tuple [.Name x px, .Name y py] kt pt] (.Tuple [u, v] k2 pt2) pos) = true) : Ok1 tabs XQ X (.Assign [.Tuple [.Name x px, .Name y py] kt pt] (.Tuple [u, v] k2 pt2) pos) (evS T (.par i j a b)) := by
  have h : (decide (G.N[i]? = some x) && (decide (G.N[j]? = some y) && (!(i == j) && (parB G x y px py u v && (chkE tb a m G u && chkE tb b m G v))))) = true := h
  obtain ⟨h1, h⟩ := and1 h
  obtain ⟨h2, h⟩ := and1 h
  obtain ⟨h3, h⟩ := and1 h
  obtain ⟨h4, h⟩ := and1 h
  obtain ⟨h5, h6⟩ := and1 h
  have hp := h4
  unfold parB at hp
  simp only [Bool.and_eq_true, decide_eq_true_eq] at hp
  obtain ⟨hk, hx, hy, hl, hxy, na, nb, hf, hc⟩ := hp
  obtain ⟨t, pa, sa⟩ := okA_cons na ((snd a).e _ _ _ _ _ g h5) (okA_cons nb ((snd b).e _ _ _ _ _ g h6) okA_nil)
  refine ⟨_, ps_par g.calm (by rw [g.N]; exact g.nd) (by rw [g.N]; exact of_decide_eq_true h1) (by rw [g.N]; exact of_decide_eq_true h2) (by simpa using h3) (by rw [g.sc]; exact hx) (by rw [g.sc]; exact hy) pa (swap_par g.sc h4), fun f S H σ ρ Dn R en q => ?_⟩
  refine sa f S H σ ρ _ R en ?_
  have q : PostS X.K tabs f H ((evE T a ρ S).sr fun x S1 => (evE T b ρ S1).sr fun y S2 => .next ((ρ.set i (some x)).set j (some y)) S2) Dn XQ := q
  dsimp only
  cases qa : evE T a ρ S with
  | bad => rw [qa] at q; exact q.elim
  | exc _ _ => rw [qa] at q; exact q
  | ok d1 S1 =>
    rw [qa] at q
    simp only [Res.sr_ok, Res.bind_ok] at q ⊢
    cases qb : evE T b ρ S1 with
    | bad => rw [qb] at q; exact q.elim
    | exc _ _ => rw [qb] at q; exact q
    | ok d2 S2 =>
      rw [qb] at q
      intro f1 H1 vs x1 R1 i1
      obtain ⟨w1, w2, rfl, j1, j2⟩ := isL2 i1
      exact ⟨w1, w2, rfl, q f1 H1 _ x1 R1 (((en.ext R x1).set i j1).set j j2)⟩
theorem oks_nil : OkS tabs XQ X [] (evS T .skip) := ⟨_, pss_nil, fun f S H σ ρ Dn R en q => next_ok q R en⟩
theorem oks_cons {a b : St} {st : Stmt} {sts : List Stmt} (ha : Ok1 tabs XQ X st (evS T a)) (hb : OkS tabs XQ X sts (evS T b)) : OkS tabs XQ X (st :: sts) (evS T (.seq a b)) := by
  obtain ⟨ta, pa, sa⟩ := ha
  obtain ⟨tb', pb, sb⟩ := hb
  refine ⟨_, pss_cons pa pb, fun f S H σ ρ Dn R en q => ?_⟩
  exact sa f S H σ ρ _ R en (PostS.then q fun ρ1 S1 f1 H1 σ1 x1 R1 e1 q1 => sb f1 S1 H1 σ1 ρ1 Dn R1 e1 q1)
theorem ok1_if {c : E} {a b : St} {t : Expr} {p q : List Stmt} {pos : Pos} (hc : OkT tabs XQ X t (evT T c)) (ha : OkS tabs XQ X p (evS T a)) (hb : OkS tabs XQ X q (evS T b)) : Ok1 tabs XQ X (.If t p q pos) (evS T (.iff c a b)) := by
  obtain ⟨tc, pc, sc⟩ := hc
  obtain ⟨ta, pa, sa⟩ := ha
  obtain ⟨tb', pb, sb⟩ := hb
  refine ⟨_, ps_if pc pa pb, fun f S H σ ρ Dn R en q => ?_⟩
  refine sc f S H σ ρ _ R en (PostS.sr q fun kk S1 f1 H1 b x1 R1 i1 q1 => ?_)
  subst i1
  cases b with
  | true => exact sa f1 S1 H1 σ ρ Dn R1 (en.ext R x1) q1
  | false => exact sb f1 S1 H1 σ ρ Dn R1 (en.ext R x1) q1
theorem ok1_while {n : Nat} {c : E} {b : St} {t : Expr} {p : List Stmt} {pos : Pos} (g : Good tb tabs k m T CX XI G XQ X) (hc : OkT tabs XQ X t (evT T c)) (hb : OkS tabs XQ X p (evS T b)) : Ok1 tabs XQ X (.While t p [] pos) (evS T (.whil n c b)) := by
  obtain ⟨tc, pc, sc⟩ := hc
  obtain ⟨tb', pb, sb⟩ := hb
  refine ⟨_, ps_while g.po pc pb, fun f S H σ ρ Dn R en q => ?_⟩
  refine ⟨fun m σ H => ∃ f S ρ, Rl X.K tabs f S H ∧ EnvIs X.K f H σ ρ ∧ PostS X.K tabs f H (whiL (fun ρ S => evT T c ρ S) (fun ρ S => evS T b ρ S) m ρ S) Dn XQ, ⟨n, f, S, ρ, R, en, q⟩, ?_⟩
  rintro m σ H ⟨f, S, ρ, R, en, q⟩
  cases m with
  | zero => exact q.elim
  | succ m =>
    have q : PostS X.K tabs f H ((evT T c ρ S).sr fun k S1 => if k = true then (evS T b ρ S1).turn fun ρ' S' => whiL (fun ρ S => evT T c ρ S) (fun ρ S => evS T b ρ S) m ρ' S' else .next ρ S1) Dn XQ := q
    refine sc f S H σ ρ _ R en (PostS.sr q fun kk S1 f1 H1 b x1 R1 i1 q1 => ?_)
    subst i1
    cases b with
    | false => exact next_ok q1 R1 (en.ext R x1)
    | true =>
      refine ⟨_, fun σ' H' w => ⟨m, Nat.lt_succ_self m, w⟩, sb f1 S1 H1 σ ρ _ R1 (en.ext R x1) (PostS.turn q1 fun ρ2 S2 f2 H2 σ2 x2 R2 e2 q2 => ⟨f2, S2, ρ2, R2, e2, q2⟩)⟩
theorem ok1_for {p : P} {it : E} {b : St} {tg x : Expr} {sts : List Stmt} {pos : Pos} (g : Good tb tabs k m T CX XI G XQ X) (hs : nset x = true) (hP : OkP tabs X tg p) (hI : OkI tabs XQ X tg x (evI T it)) (hb : OkS tabs XQ X sts (evS T b)) : Ok1 tabs XQ X (.For tg x sts [] pos) (evS T (.forr p it b)) := by
  obtain ⟨wi, pi, si⟩ := hI
  obtain ⟨gg, pg, sg⟩ := hP
  obtain ⟨tb', pb, sb⟩ := hb
  refine ⟨_, ps_for g.po g.calm pi pg pb (fold_of hs), fun f S H σ ρ Dn R en q => ?_⟩
  refine si f S H σ ρ _ R en (PostS.sr q fun w S1 f1 H1 J x1 R1 wk q1 => ?_)
  obtain ⟨xs, gd⟩ := w
  refine ⟨fun i m σ' H' => m = xs.length - i ∧ i ≤ xs.length ∧ ∃ f' S' ρ', Ext tabs f1 H1 f' H' ∧ Rl X.K tabs f' S' H' ∧ EnvIs X.K f' H' σ' ρ' ∧ PostS X.K tabs f' H' (forL gd (fun x ρ S => (Res.of (bindP p [x] ρ) S).sr fun ρ' S' => evS T b ρ' S') (xs.drop i) ρ' S') Dn XQ,
    ⟨_, rfl, Nat.zero_le _, f1, S1, ρ, Ext.refl, R1, en.ext R x1, by rw [List.drop_zero]; exact q1⟩, ?_⟩
  rintro i m σ' H' ⟨rfl, hi, f', S', ρ', xx, R', e', q⟩
  by_cases hlt : i < xs.length
  · right
    have ed : xs.drop i = xs[i] :: xs.drop (i + 1) := List.drop_eq_getElem_cons hlt
    rw [ed] at q
    unfold forL at q
    split at q
    case isFalse => exact q.elim
    rename_i hgd
    have gx : xs[i]? = some xs[i] := List.getElem?_eq_getElem hlt
    obtain ⟨go, yl⟩ := wk.go i xs[i] f' S' H' xx R' hgd gx
    refine ⟨go, fun σ2 H2 => ∃ f2 S2 ρ2, Ext tabs f1 H1 f2 H2 ∧ Rl X.K tabs f2 S2 H2 ∧ EnvIs X.K f2 H2 σ2 ρ2 ∧ PostS X.K tabs f2 H2 (forL gd (fun x ρ S => (Res.of (bindP p [x] ρ) S).sr fun ρ' S' => evS T b ρ' S') (xs.drop (i + 1)) ρ2 S2) Dn XQ,
      fun σ2 H2 w => ⟨_, by omega, rfl, hlt, w⟩, fun v H3 hy => ?_⟩
    obtain ⟨f3, x3, R3, iv⟩ := yl v H3 hy
    have q := PostS.mono x3 q
    cases qb : bindP p [xs[i]] ρ' with
    | none => rw [qb] at q; exact q.elim
    | some ρ3 =>
      rw [qb] at q
      refine sg f3 S' H3 σ' ρ' v xs[i] ρ3 _ R3 (e'.ext R' x3) iv qb fun σ4 e4 _ => ?_
      exact sb f3 S' H3 σ4 ρ3 _ R3 e4 (PostS.turn q fun ρ5 S5 f5 H5 σ5 x5 R5 e5 q5 => ⟨f5, S5, ρ5, (xx.trans x3).trans x5, R5, e5, q5⟩)
  · left
    have ei : i = xs.length := by omega
    subst ei
    rw [List.drop_length] at q
    unfold forL at q
    split at q
    case isFalse => exact q.elim
    rename_i hgd
    exact ⟨wk.stop _ f' S' H' xx R' hgd (Nat.le_refl _), next_ok q R' e'⟩
/-- every check of s tells what s says -/
structure SndS (tb : Tb) (tabs : List Addr) (k : Nat) (T : Nat → List D → Sto → Res D) (CX : CXT) (XI : XIT) (ss : St) : Prop where
  one : ∀ m G XQ X st, Good tb tabs k m T CX XI G XQ X → chk1 tb ss m G st = true → Ok1 tabs XQ X st (evS T ss)
  many : ∀ m G XQ X sts, Good tb tabs k m T CX XI G XQ X → chkS tb ss m G sts = true → OkS tabs XQ X sts (evS T ss)
theorem sndS (ss : St) : SndS tb tabs k T CX XI ss := by
  induction ss with
  | skip =>
    refine ⟨fun m G XQ X st g h => ?_, fun m G XQ X sts g h => ?_⟩
    · cases st with
      | Pass pos => exact ⟨_, ps_pass, fun f S H σ ρ Dn R en q => next_ok q R en⟩
      | Expr x pos =>
        cases x with
        | Constant kc j p =>
          cases kc with
          | str z => exact ⟨_, ps_doc, fun f S H σ ρ Dn R en q => next_ok q R en⟩
          | _ => exact nomatch (show false = true from h)
        | _ => exact nomatch (show false = true from h)
      | _ => exact nomatch (show false = true from h)
    · cases sts with
      | nil => exact oks_nil
      | cons _ _ => exact nomatch (show false = true from h)
  | seq a b A B =>
    refine ⟨fun m G XQ X st g h => (nomatch (show false = true from h)), fun m G XQ X sts g h => ?_⟩
    cases sts with
    | nil => exact nomatch (show false = true from h)
    | cons st sts =>
      have h : (chk1 tb a m G st && chkS tb b m G sts) = true := h
      obtain ⟨h1, h2⟩ := and1 h
      exact oks_cons (A.one _ _ _ _ _ g h1) (B.many _ _ _ _ _ g h2)
  | asg gg e =>
    refine ⟨fun m G XQ X st g h => ?_, fun m G XQ X sts g h => nomatch (show false = true from h)⟩
    cases gg with
    | pt p =>
      cases st with
      | Assign tgs x pos =>
        cases tgs with
        | nil => exact nomatch (show false = true from h)
        | cons tg tgs =>
          cases tgs with
          | cons _ _ => exact nomatch (show false = true from h)
          | nil => exact ok1_asg g h
      | _ => exact nomatch (show false = true from h)
    | sub o i =>
      cases st with
      | Assign tgs x pos =>
        cases tgs with
        | nil => exact nomatch (show false = true from h)
        | cons tg tgs =>
          cases tg with
          | Subscript y z p2 =>
            cases tgs with
            | cons _ _ => exact nomatch (show false = true from h)
            | nil => exact ok1_sub g h
          | _ => exact nomatch (show false = true from h)
      | _ => exact nomatch (show false = true from h)
  | setlc i e =>
    refine ⟨fun m G XQ X st g h => ?_, fun m G XQ X sts g h => nomatch (show false = true from h)⟩
    cases e with
    | lc own p a b c =>
      cases st with
      | Assign tgs x pos =>
        cases tgs with
        | nil => exact nomatch (show false = true from h)
        | cons tg tgs =>
          cases tg with
          | Name y py =>
            cases tgs with
            | cons _ _ => exact nomatch (show false = true from h)
            | nil =>
              cases x with
              | ListComp elt gens scope p2 =>
                cases gens with
                | nil => exact nomatch (show false = true from h)
                | cons gn gens =>
                  obtain ⟨tg, iter, ifs, ia⟩ := gn
                  cases gens with
                  | cons _ _ => exact nomatch (show false = true from h)
                  | nil => exact ok1_setlc g h
              | _ => exact nomatch (show false = true from h)
          | _ => exact nomatch (show false = true from h)
      | _ => exact nomatch (show false = true from h)
    | _ => exact nomatch (show false = true from h)
  | par i j a b =>
    refine ⟨fun m G XQ X st g h => ?_, fun m G XQ X sts g h => nomatch (show false = true from h)⟩
    cases st with
    | Assign tgs x pos =>
      cases tgs with
      | nil => exact nomatch (show false = true from h)
      | cons tg tgs =>
        cases tg with
        | Tuple ns kt pt =>
          cases ns with
          | nil => exact nomatch (show false = true from h)
          | cons n1 ns =>
            cases n1 with
            | Name y1 p1 =>
              cases ns with
              | nil => exact nomatch (show false = true from h)
              | cons n2 ns =>
                cases n2 with
                | Name y2 p2 =>
                  cases ns with
                  | cons _ _ => exact nomatch (show false = true from h)
                  | nil =>
                    cases tgs with
                    | cons _ _ => exact nomatch (show false = true from h)
                    | nil =>
                      cases x with
                      | Tuple us k2 pt2 =>
                        cases us with
                        | nil => exact nomatch (show false = true from h)
                        | cons u us =>
                          cases us with
                          | nil => exact nomatch (show false = true from h)
                          | cons v us =>
                            cases us with
                            | cons _ _ => exact nomatch (show false = true from h)
                            | nil => exact ok1_par g h
                      | _ => exact nomatch (show false = true from h)
                | _ => exact nomatch (show false = true from h)
            | _ => exact nomatch (show false = true from h)
        | _ => exact nomatch (show false = true from h)
    | _ => exact nomatch (show false = true from h)
  | expr e =>
    refine ⟨fun m G XQ X st g h => ?_, fun m G XQ X sts g h => nomatch (show false = true from h)⟩
    cases st with
    | Expr x pos =>
      have h : (nlc x && chkE tb e m G x) = true := h
      obtain ⟨h1, h2⟩ := and1 h
      obtain ⟨te, pe, se⟩ := (snd e).e _ _ _ _ _ g h2
      refine ⟨_, ps_expr pe (sw_of h1), fun f S H σ ρ Dn R en q => ?_⟩
      exact se f S H σ ρ _ R en (PostS.sr q fun d S1 f1 H1 v x1 R1 i1 q1 => next_ok q1 R1 (en.ext R x1))
    | _ => exact nomatch (show false = true from h)
  | ret e =>
    refine ⟨fun m G XQ X st g h => ?_, fun m G XQ X sts g h => nomatch (show false = true from h)⟩
    cases st with
    | Return ox pos =>
      cases ox with
      | none => exact nomatch (show false = true from h)
      | some x =>
        obtain ⟨te, pe, se⟩ := (snd e).e _ _ _ _ _ g (show chkE tb e m G x = true from h)
        refine ⟨_, ps_ret pe, fun f S H σ ρ Dn R en q => ?_⟩
        exact se f S H σ ρ _ R en (PostS.sr q fun d S1 f1 H1 v x1 R1 i1 q1 => q1 f1 H1 v Ext.refl R1 i1)
    | _ => exact nomatch (show false = true from h)
  | retN =>
    refine ⟨fun m G XQ X st g h => ?_, fun m G XQ X sts g h => nomatch (show false = true from h)⟩
    cases st with
    | Return ox pos =>
      cases ox with
      | some _ => exact nomatch (show false = true from h)
      | none => exact ⟨_, ps_retN, fun f S H σ ρ Dn R en q => q f H .non Ext.refl R .non⟩
    | _ => exact nomatch (show false = true from h)
  | iff c a b A B =>
    refine ⟨fun m G XQ X st g h => ?_, fun m G XQ X sts g h => nomatch (show false = true from h)⟩
    cases st with
    | If t p q pos =>
      have h : (chkE tb c m G t && (chkS tb a m G p && chkS tb b m G q)) = true := h
      obtain ⟨h1, h⟩ := and1 h
      obtain ⟨h2, h3⟩ := and1 h
      exact ok1_if ((snd c).t _ _ _ _ _ g h1) (A.many _ _ _ _ _ g h2) (B.many _ _ _ _ _ g h3)
    | _ => exact nomatch (show false = true from h)
  | whil n c b B =>
    refine ⟨fun m G XQ X st g h => ?_, fun m G XQ X sts g h => nomatch (show false = true from h)⟩
    cases st with
    | While t p q pos =>
      cases q with
      | cons _ _ => exact nomatch (show false = true from h)
      | nil =>
        have h : (chkE tb c m G t && chkS tb b m G p) = true := h
        obtain ⟨h1, h2⟩ := and1 h
        exact ok1_while g ((snd c).t _ _ _ _ _ g h1) (B.many _ _ _ _ _ g h2)
    | _ => exact nomatch (show false = true from h)
  | forr p it b B =>
    refine ⟨fun m G XQ X st g h => ?_, fun m G XQ X sts g h => nomatch (show false = true from h)⟩
    cases st with
    | For tg x q els pos =>
      cases els with
      | cons _ _ => exact nomatch (show false = true from h)
      | nil =>
        have h : (nset x && (nst tg && (!isRow p && (chkP G p [tg] && (chkI tb it m G x && chkS tb b m G q))))) = true := h
        obtain ⟨h1, h⟩ := and1 h
        obtain ⟨h2, h⟩ := and1 h
        obtain ⟨h3, h⟩ := and1 h
        obtain ⟨h4, h⟩ := and1 h
        obtain ⟨h5, h6⟩ := and1 h
        exact ok1_for g h1 ((okP g p).1 (by simpa using h3) tg h4) ((snd it).i _ _ _ _ tg _ g h5) (B.many _ _ _ _ _ g h6)
    | _ => exact nomatch (show false = true from h)
  | brk =>
    refine ⟨fun m G XQ X st g h => ?_, fun m G XQ X sts g h => nomatch (show false = true from h)⟩
    cases st with
    | Break pos => exact ⟨_, ps_break, fun f S H σ ρ Dn R en q => q f H σ Ext.refl R en⟩
    | _ => exact nomatch (show false = true from h)
  | cnt =>
    refine ⟨fun m G XQ X st g h => ?_, fun m G XQ X sts g h => nomatch (show false = true from h)⟩
    cases st with
    | Continue pos => exact ⟨_, ps_continue, fun f S H σ ρ Dn R en q => q f H σ Ext.refl R en⟩
    | _ => exact nomatch (show false = true from h)
end
end Rv

set_option Elab.async false
set_option linter.all false
set_option maxRecDepth 100000
set_option maxHeartbeats 4000000
/-! RvN: the table of functions; the end of a law. -/
namespace Rv
open PySem PySem.Spec PyProof.Rows L2
/-- a def as it is written down here -/
structure Row where
  d : He.DefD
  N : List Str
  ps : List Str
  fn : Fn
def scopeB (N ps : List Str) (sc : Scope) : Bool :=
  decide (sc.kind = .function) && (!sc.isCoroutine && (!sc.isGenerator && (decide N.Nodup && (decide (N.take ps.length = ps) && ((ps.all fun x => decide (sc.names.lookup x = some .local) || decide (sc.names.lookup x = some .cell)) && sc.names.all fun y => !(decide (y.2 = .free)))))))
theorem scope_of {N ps : List Str} {sc : Scope} (h : scopeB N ps sc = true) : FnScope N ps sc := by
  unfold scopeB at h
  simp only [Bool.and_eq_true, decide_eq_true_eq, Bool.not_eq_true', List.all_eq_true, Bool.or_eq_true, decide_eq_false_iff_not] at h
  obtain ⟨h1, h2, h3, h4, h5, h6, h7⟩ := h
  exact ⟨h1, h2, h3, h4, h5, h6, h7⟩
def fnG (N : List Str) (sc : Scope) : Gx := ⟨N, sc, N.filter fun x => decide (sc.names.lookup x = some .local) || decide (sc.names.lookup x = some .cell)⟩
def Row.ok (tb : Tb) (r : Row) : Bool := scopeB r.N r.ps r.d.scope && (decide (r.fn.np = r.ps.length) && (decide (r.fn.ns = r.N.length) && chkS tb r.fn.body 1 (fnG r.N r.d.scope) r.d.body))
section
variable {K : PySem.W.Frag} {tabs f : List Addr} {H : Hp} {XQ : XQT}
theorem env_start {vs : List V} {ds : List D} (t : IsL K f H vs ds) (N : List Str) : EnvIs K f H (start N vs) (startD N.length ds) := by
  have hl := t.length
  refine ⟨?_, fun i d h => ?_⟩
  · show (ds.map some ++ List.replicate (N.length - ds.length) none).length = (vs.map some ++ List.replicate (N.length - vs.length) none).length
    simp [hl]
  · have h : (ds.map some ++ List.replicate (N.length - ds.length) none)[i]? = some (some d) := h
    show ∃ v, (vs.map some ++ List.replicate (N.length - vs.length) none)[i]? = some (some v) ∧ _
    by_cases hi : i < ds.length
    · rw [List.getElem?_append_left (by simpa using hi), List.getElem?_map] at h
      obtain ⟨d', h1, h2⟩ := Option.map_eq_some_iff.mp h
      cases h2
      obtain ⟨v, h3, h4⟩ := t.getD h1
      exact ⟨v, by rw [List.getElem?_append_left (by rw [List.length_map, hl]; exact hi), List.getElem?_map, h3]; rfl, h4⟩
    · rw [List.getElem?_append_right (by simpa using hi)] at h
      have h5 := List.mem_of_getElem? h
      have h6 := List.eq_of_mem_replicate h5
      cases h6
theorem post_res {r : SR} {Q : VK} (h : PostD K tabs f H r.res Q XQ) : PostS K tabs f H r { nx := fun _ H' => Q .non H', rt := Q } XQ := by
  cases r with
  | next ρ S => exact fun f' H' σ' x R _ => h f' H' .non x R .non
  | ret d S => exact h
  | exc x S => exact h
  | brk ρ S => exact h.elim
  | cnt ρ S => exact h.elim
  | bad => exact h
end
/-- the module as the heads tell it -/
structure ModOk (tb : Tb) (tabs : List Addr) (rows : List Row) (CX : CXT) (XI : XIT) (P : Program) (w : World) (K : PySem.W.Frag) (mg : Str → Option Value) (base : Heap) : Prop where
  free : ∀ x ∈ tb.free, mg x = none
  glo : ∀ p ∈ tb.glo, ∃ u v, mg p.1 = some u ∧ RelV v u ∧ ∀ fs H, Is K fs H v p.2
  fns : tb.fns = rows.map fun r => r.d.at_.1
  row : ∀ r ∈ rows, r.ok tb = true ∧ ∃ f fd c Pt, mg r.d.at_.1 = some (.ref f) ∧ FunD K r.d.name r.d.qual r.d.params r.d.body r.d.scope [] [] f fd ∧ Binds K fd r.ps [] ∧ fd.code = .ref c ∧ GxR.TabB base mg c Pt ∧ Pt ∈ tabs
  cx0 : ∀ l H s e s', ¬ CX l H s E0 e s'
  pas : ∀ (N : List Str) (qual : Str) (scope : Scope) (f : Addr) (cd : Value) (A : Around) (outer : List PySem.Env) (s : Shared) (H : Hp) (E : XK), Passes CX (cxOf CX P w K mg base N qual scope f cd A outer s H E) E
abbrev tabF (rows : List Row) : Nat → Option Fn := fun i => (rows[i]?).map (·.fn)
theorem fn_step {tb : Tb} {tabs : List Addr} {rows : List Row} {CX : CXT} {XI : XIT} {P : Program} {w : World} {K : PySem.W.Frag} {mg : Str → Option Value} {base : Heap} {k i : Nat} {r : Row} {f c Pt : Addr} {fd : FuncData}
    (ih : GlobOk tb tabs (2 * k) (fun i => evF (tabF rows) k i) CX XI P w K mg base) (h1 : rows[i]? = some r) (hr : r.ok tb = true) (F : FunD K r.d.name r.d.qual r.d.params r.d.body r.d.scope [] [] f fd) (hc : fd.code = .ref c) (TB : GxR.TabB base mg c Pt) (hPt : Pt ∈ tabs)
    (pas : ∀ (N : List Str) (qual : Str) (scope : Scope) (f : Addr) (cd : Value) (A : Around) (outer : List PySem.Env) (s : Shared) (H : Hp) (E : XK), Passes CX (cxOf CX P w K mg base N qual scope f cd A outer s H E) E) :
    FnOk P w K mg base CX (2 * (k + 1)) f fd r.ps (spF K tabs XI (evF (tabF rows) (k + 1) i)) := by
  unfold Row.ok at hr
  obtain ⟨hsc, hr⟩ := and1 hr
  obtain ⟨hnp, hr⟩ := and1 hr
  obtain ⟨hns, hchk⟩ := and1 hr
  have hnp := of_decide_eq_true hnp
  have hns := of_decide_eq_true hns
  have S := scope_of hsc
  have step : ∀ (ds : List D) (S : Sto), evF (tabF rows) (k + 1) i ds S = if ds.length = r.fn.np then (evS (evF (tabF rows) k) r.fn.body (startD r.fn.ns ds) S).res else .bad := fun ds S => by
    show (match tabF rows i with | none => Res.bad | some f => if ds.length = f.np then (evS (evF (tabF rows) k) f.body (startD f.ns ds) S).res else .bad) = _
    have : tabF rows i = some r.fn := by show (rows[i]?).map _ = _; rw [h1]; rfl
    rw [this]
  obtain ⟨oc, od, dV, kV, doc, pm, an, cdv, ct, osl, rfl, lk, hcd, _, _⟩ := F.ex
  have hc : cdv = .ref c := hc
  have len : ∀ vs H Q E, spF K tabs XI (evF (tabF rows) (k + 1) i) vs H Q E → vs.length = r.ps.length := fun vs H Q E h => by
    obtain ⟨fs, S0, ds, R, t, h⟩ := h
    rw [step] at h
    rw [t.length, ← hnp]
    split at h
    · assumption
    · exact h.elim
  refine (fn_of (k := 2 * k + 1) lk hcd S len fun A outer s H vs Q E hrm hsp => ?_ : FnOk P w K mg base CX (2 * k + 1 + 1) f _ r.ps _)
  obtain ⟨fs, S0, ds, R, t, h⟩ := hsp
  rw [step] at h
  split at h
  case isFalse => exact h.elim
  have g : Good tb tabs (2 * k) 1 (fun i => evF (tabF rows) k i) CX XI (fnG r.N r.d.scope) (fun x S' f' H' => ∀ c d, XI x S' f' H' c d → E c d H') (cxOf CX P w K mg base r.N r.d.qual r.d.scope f cdv A outer s H E) := by
    refine ⟨rfl, S.nd, rfl, fun x hx => ?_, rfl, hrm, fun _ => ⟨c, Pt, hc, TB, hPt⟩, passes_of rfl, ih, E, pas _ _ _ _ _ _ _ _ _ _, fun _ _ _ _ h => h⟩
    have hx := (List.mem_filter.mp hx).2
    rw [Bool.or_eq_true, decide_eq_true_eq, decide_eq_true_eq] at hx
    exact ⟨hx, .inl rfl⟩
  obtain ⟨t', ps, rd⟩ := (sndS r.fn.body).many 1 _ _ _ _ g hchk
  refine ⟨t', ps, rd fs S0 H _ (startD r.fn.ns ds) _ R ?_ (post_res h)⟩
  rw [hns]
  exact env_start t r.N
theorem glob_ok {tb : Tb} {tabs : List Addr} {rows : List Row} {CX : CXT} {XI : XIT} {P : Program} {w : World} {K : PySem.W.Frag} {mg : Str → Option Value} {base : Heap} (M : ModOk tb tabs rows CX XI P w K mg base) :
    ∀ k, GlobOk tb tabs (2 * k) (fun i => evF (tabF rows) k i) CX XI P w K mg base := by
  intro k
  induction k with
  | zero =>
    refine ⟨M.free, M.glo, fun i x hx => ?_, M.cx0⟩
    rw [M.fns, List.getElem?_map] at hx
    obtain ⟨r, h1, rfl⟩ := Option.map_eq_some_iff.mp hx
    obtain ⟨hr, f, fd, c, Pt, h2, F, B, _⟩ := M.row r (List.mem_of_getElem? h1)
    exact ⟨f, fd, r.ps, h2, F.kp, B, ⟨fun vs H Q E h => (let ⟨_, _, _, _, _, z⟩ := h; (show False from z).elim), fun A outer s H args us vs Q E _ _ _ _ h => (let ⟨_, _, _, _, _, z⟩ := h; (show False from z).elim)⟩⟩
  | succ k ih =>
    refine ⟨M.free, M.glo, fun i x hx => ?_, M.cx0⟩
    rw [M.fns, List.getElem?_map] at hx
    obtain ⟨r, h1, rfl⟩ := Option.map_eq_some_iff.mp hx
    obtain ⟨hr, f, fd, c, Pt, h2, F, B, hc, TB, hPt⟩ := M.row r (List.mem_of_getElem? h1)
    exact ⟨f, fd, r.ps, h2, F.kp, B, fn_step ih h1 hr F hc TB hPt M.pas⟩

/-! ### the facts behind the top -/
def codeA (K : PySem.W.Frag) (p : Str × Option Str) : Option Addr := match K.lookup (He.fAd K p) with
  | some ⟨_, _, .func fd, _⟩ => (match fd.code with
    | .ref c => some c
    | _ => none)
  | _ => none
def tabA (g : Addr → Option Obj) (c : Addr) : Addr := match g c with
  | some ⟨_, _, Data.fields vs, _⟩ => (match (vs[11]? : Option Value) with
    | some (Value.ref P) => P
    | _ => 0)
  | _ => 0
def hdB (g : Addr → Option Obj) (c P : Addr) : Bool := match g c with
  | some ⟨.type t, _, .fields vs, _⟩ => decide (t = "code") && ((match (vs[11]? : Option Value) with
    | some (Value.ref P') => decide (P' = P)
    | _ => false) && ((match vs.getD 18 .none with
    | .str .. => true
    | _ => false) && ((match vs.getD 7 .none with
    | .int .. => true
    | _ => false) && ((match vs.getD 9 .none with
    | .bool .. => true
    | _ => false) && ((match vs.getD 10 .none with
    | .int .. => true
    | _ => false) && !(decide (c = P)))))))
  | _ => false
def emptyB (g : Addr → Option Obj) (P : Addr) : Bool := match g P with
  | some ⟨.none, none, .fields vs, sl⟩ => vs.isEmpty && sl.isEmpty
  | _ => false
theorem hd_of {h : Heap} {c P : Addr} (e : hdB h.get? c P = true) : PySem.W.CodeHd h c P := by
  unfold hdB at e
  split at e
  · rename_i o t dd vs sl ho
    obtain ⟨h1, e⟩ := and1 e
    obtain ⟨h2, e⟩ := and1 e
    obtain ⟨h3, e⟩ := and1 e
    obtain ⟨h4, e⟩ := and1 e
    obtain ⟨h5, e⟩ := and1 e
    obtain ⟨h6, h7⟩ := and1 e
    have h1 := of_decide_eq_true h1
    subst h1
    split at h2
    · rename_i P' q2
      have h2 := of_decide_eq_true h2
      subst h2
      split at h3
      · rename_i q3
        split at h4
        · rename_i q4
          split at h5
          · rename_i q5
            split at h6
            · rename_i q6
              refine ⟨_, vs, _, _, _, _, _, _, _, ho, rfl, rfl, q2, ?_, q3, q4, q5, q6, by simpa using h7⟩
              rw [Array.getD_eq_getD_getElem?, q2]
              rfl
            · cases h6
          · cases h5
        · cases h4
      · cases h3
    · cases h2
  · cases e
theorem empty_of {h : Heap} {P : Addr} (e : emptyB h.get? P = true) : h.get? P = some { cls := .none, data := .fields #[] } := by
  unfold emptyB at e
  split at e
  · rename_i vs sl ho
    obtain ⟨h1, h2⟩ := and1 e
    rw [ho, Array.isEmpty_iff.mp h1, Array.isEmpty_iff.mp h2]
  · cases e
/-- the part of the heap without the tables -/
def frT (n : Nat) (fn : List He.DefD) (g : Addr → Option Obj) : PySem.W.Frag :=
  He.frG g ((He.asD g n).filter fun a => !(fn.any fun d => decide ((codeA (He.frG g (He.asD g n)) d.at_).map (tabA g) = some a)))
def tabB (K : PySem.W.Frag) (g : Addr → Option Obj) (d : He.DefD) : Bool := match codeA K d.at_ with
  | some c => hdB g c (tabA g c) && (emptyB g (tabA g c) && (K.lookup (tabA g c)).isNone)
  | none => false
abbrev AlT : Type := He.AlD × Bool
def obsT (n : Nat) (fa : List He.Fa) (fn : List He.DefD) (g : Addr → Option Obj) : AlT := (He.obsD fa fn (frT n fn g), fn.all (tabB (frT n fn g) g))
def SaysT (fn : List He.DefD) (K : PySem.W.Frag) (h : Heap) : Prop := ∀ d ∈ fn, ∃ c P, codeA K d.at_ = some c ∧ PySem.W.CodeHd h c P ∧ h.get? P = some { cls := .none, data := .fields #[] } ∧ K.lookup P = none
def hookT (n : Nat) (fa : List He.Fa) (fn : List He.DefD) : PySem.W.Hook where
  α := AlT
  obs := fun s => obsT n fa fn s.heap.get?
  val := fun _ => (He.valD fn, true)
  says := fun _ h => ∃ K : PySem.W.Frag, K.In h ∧ He.SaysD fa fn K ∧ SaysT fn K h
  of := fun _ s e => by
    refine ⟨_, He.frG_in, congrArg Prod.fst e, fun d hd => ?_⟩
    have e2 : fn.all (tabB (frT n fn s.heap.get?) s.heap.get?) = true := congrArg Prod.snd e
    have e3 := List.all_eq_true.mp e2 d hd
    unfold tabB at e3
    split at e3
    · rename_i c hc
      obtain ⟨h1, e3⟩ := and1 e3
      obtain ⟨h2, h3⟩ := and1 e3
      exact ⟨c, _, hc, hd_of h1, empty_of h2, Option.isNone_iff_eq_none.mp h3⟩
    · cases e3
  keeps := fun _ _ _ ⟨K, hK, c, t⟩ k => ⟨K, PySem.W.Frag.In.keeps hK k, c, fun d hd => let ⟨cc, P, h1, h2, h3, h4⟩ := t d hd; ⟨cc, P, h1, h2.keeps k, k _ _ h3, h4⟩⟩
theorem obsT_eq {n : Nat} {fa : List He.Fa} {fn : List He.DefD} {g : Addr → Option Obj} {s : Shared} (h : ∀ a, g a = s.heap.get? a) : obsT n fa fn g = (hookT n fa fn).obs s := by
  have e : g = s.heap.get? := funext h
  rw [e] <;> rfl
theorem code_fd {K : PySem.W.Frag} {d : He.DefD} {c : Addr} {o : Obj} {fd : FuncData} (h : codeA K d.at_ = some c) (ho : K.lookup (He.fAd K d.at_) = some o) (hd : o.data = .func fd) : fd.code = .ref c := by
  unfold codeA at h
  rw [ho] at h
  obtain ⟨a1, a2, a3, a4⟩ := o
  have hd : a3 = .func fd := hd
  subst hd
  dsimp only at h
  split at h
  · rename_i c' q
    cases h
    exact q
  · cases h
/-- the tables, picked -/
theorem tabs_of {K : PySem.W.Frag} {h : Heap} : ∀ {fn : List He.DefD}, SaysT fn K h → ∃ cs : List (Addr × Addr), (∀ p ∈ cs, PySem.W.CodeHd h p.1 p.2 ∧ h.get? p.2 = some { cls := .none, data := .fields #[] } ∧ K.lookup p.2 = none) ∧ ∀ d ∈ fn, ∃ p ∈ cs, codeA K d.at_ = some p.1
  | [], _ => ⟨[], by simp, by simp⟩
  | d :: fn, t => by
    obtain ⟨c, P, h1, h2⟩ := t d (by simp)
    obtain ⟨cs, h3, h4⟩ := tabs_of (fn := fn) fun d' hd => t d' (by simp [hd])
    refine ⟨(c, P) :: cs, fun p hp => ?_, fun d' hd => ?_⟩
    · rcases List.mem_cons.mp hp with e | hp
      · rw [e]; exact h2
      · exact h3 p hp
    · rcases List.mem_cons.mp hd with e | hd
      · exact ⟨_, List.mem_cons_self, by rw [e]; exact h1⟩
      · obtain ⟨p, hp, q⟩ := h4 d' hd
        exact ⟨p, List.mem_cons_of_mem _ hp, q⟩
end Rv

set_option Elab.async false
set_option linter.all false
set_option maxRecDepth 100000
set_option maxHeartbeats 4000000
/-! RvO: the end of a law over such a table, no exception in sight. -/
namespace Rv
open PySem PySem.Spec PyProof.Rows L2
def gloFa (p : Str × D) : Option He.Fa := match p.2 with
  | .int i => some (.int p.1 i)
  | .str z => some (.str p.1 z)
  | _ => none
def faOf (tb : Tb) (rows : List Row) : List He.Fa := rows.map (fun r => He.Fa.glo r.d.at_.1) ++ (tb.free.map He.Fa.free ++ tb.glo.filterMap gloFa)
theorem says_fa {fa : List He.Fa} {fn : List He.DefD} {K : PySem.W.Frag} (c : He.SaysD fa fn K) {f : He.Fa} (h : f ∈ fa) : f.ok K = true := by
  obtain ⟨i, hi⟩ := List.mem_iff_getElem?.mp h
  exact c.fact i hi
theorem says_def {fa : List He.Fa} {fn : List He.DefD} {K : PySem.W.Frag} (c : He.SaysD fa fn K) {d : He.DefD} (h : d ∈ fn) : ∃ fd, FunD K d.name d.qual d.params d.body d.scope (d.dvs K) (d.kws K) (He.fAd K d.at_) fd := by
  obtain ⟨i, hi⟩ := List.mem_iff_getElem?.mp h
  exact c.def_ i hi
def Row.bare (r : Row) : Bool := r.d.at_.2.isNone && (r.d.dfl.isEmpty && r.d.kwd.isEmpty)
/-- how the arguments of a def bind -/
def Row.binds (r : Row) : Prop := ∀ (kV doc pm : Value) (an : Option Addr) (cdv ct : Value) (us : List Value), us.length = r.ps.length → bindArgs (PySem.W.fnOf r.d.name r.d.qual r.d.params r.d.body r.d.scope .none kV doc pm an cdv ct) ⟨us, []⟩ = pure (r.ps.zip us)
theorem mod_ok {tb : Tb} {rows : List Row} {K : PySem.W.Frag} {h base : Heap} {mg : Str → Option Value} {P : Program} {w : World} {cs : List (Addr × Addr)} {CX : CXT} {XI : XIT} (X : K.In h) (G : h.Ns mainGlobals mg)
    (c : He.SaysD (faOf tb rows) (rows.map (·.d)) K) (hf : tb.fns = rows.map fun r => r.d.at_.1) (hg : tb.glo.all (fun p => (gloFa p).isSome) = true) (hr : ∀ r ∈ rows, r.ok tb = true) (hb : rows.all Row.bare = true) (hbi : ∀ r ∈ rows, r.binds)
    (hc : ∀ d ∈ rows.map (·.d), ∃ p ∈ cs, codeA K d.at_ = some p.1) (TB : ∀ p ∈ cs, LamX.TabB base mg p.1 p.2) (cx0 : ∀ l H s e s', ¬ CX l H s E0 e s')
    (pas : ∀ (N : List Str) (qual : Str) (scope : Scope) (f : Addr) (cd : Value) (A : Around) (outer : List PySem.Env) (s : Shared) (H : Hp) (E : XK), Passes CX (cxOf CX P w K mg base N qual scope f cd A outer s H E) E) :
    ModOk tb (cs.map (·.2)) rows CX XI P w K mg base := by
  refine ⟨fun x hx => He.free_ok X G (says_fa c (List.mem_append_right _ (List.mem_append_left _ (List.mem_map_of_mem hx)))), fun p hp => ?_, hf, fun r hm => ⟨hr r hm, ?_⟩, cx0, pas⟩
  · have h1 := List.all_eq_true.mp hg p hp
    obtain ⟨f, hf⟩ := Option.isSome_iff_exists.mp h1
    have h2 : f.ok K = true := says_fa c (List.mem_append_right _ (List.mem_append_right _ (List.mem_filterMap.mpr ⟨p, hp, hf⟩)))
    obtain ⟨x, d⟩ := p
    cases d with
    | int i =>
      cases hf
      obtain ⟨t, e⟩ := He.int_ok X G h2
      exact ⟨_, .int i, e, ⟨t, rfl⟩, fun _ _ => .int i⟩
    | str z =>
      cases hf
      obtain ⟨t, e⟩ := He.str_ok X G h2
      exact ⟨_, .str z, e, ⟨t, rfl⟩, fun _ _ => .str z⟩
    | _ => cases hf
  · have hb1 := List.all_eq_true.mp hb r hm
    unfold Row.bare at hb1
    obtain ⟨b1, hb1⟩ := and1 hb1
    obtain ⟨b2, b3⟩ := and1 hb1
    obtain ⟨fd, F⟩ := says_def c (List.mem_map_of_mem (f := fun r : Row => r.d) hm)
    have e1 : r.d.dvs K = [] := by unfold He.DefD.dvs; rw [List.isEmpty_iff.mp b2]; rfl
    have e2 : r.d.kws K = [] := by unfold He.DefD.kws; rw [List.isEmpty_iff.mp b3]; rfl
    rw [e1, e2] at F
    have e3 : He.fAd K r.d.at_ = He.ga K r.d.at_.1 := by
      unfold He.fAd
      rw [Option.isNone_iff_eq_none.mp b1]
    have g := He.glo_ok X G (says_fa c (List.mem_append_left _ (List.mem_map_of_mem (f := fun r : Row => He.Fa.glo r.d.at_.1) hm)))
    obtain ⟨p, hp, hcd⟩ := hc r.d (List.mem_map_of_mem (f := fun r : Row => r.d) hm)
    obtain ⟨oc, od, dV, kV, doc, pm, an, cdv, ct, osl, hfd, lk, _⟩ := id F.ex
    have tbp := TB p hp
    exact ⟨_, fd, p.1, p.2, by rw [e3]; exact g, F, F.bindsN (hbi r hm), code_fd hcd lk rfl, ⟨tbp.code, tbp.bm, tbp.gP⟩, List.mem_map_of_mem hp⟩
theorem sc_of {K : PySem.W.Frag} {H : Hp} {a : Addr} {vs : List V} (h : SqL K H a vs) : H a = some (.lst vs) ∨ SqF K H a vs := by
  rcases h with (h | ⟨ob, h⟩) | h
  · exact .inl h
  · exact .inr (.inl ⟨ob, h⟩)
  · exact .inr (.inr h)
theorem ints_is {K : PySem.W.Frag} {f : List Addr} {H : Hp} : ∀ ns : List Int, IsL K f H (ns.map V.int) (ns.map D.int)
  | [] => .nil
  | n :: ns => .cons (.int n) (ints_is ns)
/-- the script, a cell or a list that nobody writes -/
def Script (ns : List Int) (S : Sto) (d : D) : Prop := (S = [] ∧ d = .frl (ns.map D.int)) ∨ (S = [.lst (ns.map D.int)] ∧ d = .ref 0)
theorem script_sp {K : PySem.W.Frag} {tabs : List Addr} {XI : XIT} {H : Hp} {a : Addr} {ns : List Int} {T : List D → Sto → Res D} (hS : SqL K H a (ns.map V.int)) (hT : ∀ P ∈ tabs, H P = some (.tbl #[])) (h : ∀ S d, Script ns S d → ∃ S', T [d] S = .ok (.bl true) S') :
    spF K tabs XI T [.ref a] H (fun v _ => v = .bl true) fun _ _ _ => False := by
  have tb : ∀ P ∈ tabs, TabOk H P := fun P hP => ⟨#[], hT P hP, by first | trivial | simp [TriplesOk] | constructor⟩
  have fin : ∀ (fs : List Addr) (S' : Sto), PostD K tabs fs H (.ok (.bl true) S') (fun v _ => v = .bl true) (fun x S' f' H' => ∀ c d, XI x S' f' H' c d → False) := fun fs S' f' H' v _ _ i => by
    cases i
    rfl
  rcases sc_of hS with hl | hf
  · obtain ⟨S', e⟩ := h [.lst (ns.map D.int)] (.ref 0) (.inr ⟨rfl, rfl⟩)
    refine ⟨[a], [.lst (ns.map D.int)], [.ref 0], ⟨rfl, by simp, fun n o b h1 h2 => ?_, tb⟩, .cons (.ref rfl) .nil, by rw [e]; exact fin _ _⟩
    cases n with
    | zero =>
      cases h1
      cases h2
      exact ⟨_, hl, ints_is ns⟩
    | succ n => simp at h1
  · obtain ⟨S', e⟩ := h [] (.frl (ns.map D.int)) (.inl ⟨rfl, rfl⟩)
    exact ⟨[], [], [.frl (ns.map D.int)], ⟨rfl, by simp, fun n o b h1 h2 => by simp at h1, tb⟩, .cons (.frl hf (ints_is ns)) .nil, by rw [e]; exact fin _ _⟩
theorem end_walk {l : PySem.W.OpenLaw} {n m fuel li : Nat} {q : Program} {loose : List Str} {XP : (Str → Option Value) → Heap → Prop} {d : DefRec} {tb : Tb} {rows : List Row} {x : Str} {r : Row}
    (hn : l.most = some n) (hn2 : n ≤ sizeLine) (hdf : d.params.defaults = []) (hrm : Room (2 * (fuel + 1)) callerA) (hf : tb.fns = rows.map fun r => r.d.at_.1) (hg : tb.glo.all (fun p => (gloFa p).isSome) = true) (hr : ∀ r ∈ rows, r.ok tb = true) (hb : rows.all Row.bare = true) (hbi : ∀ r ∈ rows, r.binds)
    (hli : rows[li]? = some r) (hps : r.ps = [x]) (hnm : r.d.at_.1 = d.name) (pure_ : ∀ ns : List Int, ns.length ≤ n → ∀ S c, Script ns S c → ∃ S', evF (tabF rows) (fuel + 1) li [c] S = .ok (.bl true) S') :
    PySem.W.WalkO q loose XP (hookT m (faOf tb rows) (rows.map (·.d))).says l.row.toRowW d [] (fun f vs => PySem.call f vs) := by
  refine LamX.walk_ofTsE (n := n) (k := 2 * (fuel + 1)) (x := x) (CX := fun _ => CX0) hn hn2 hdf hrm (fun w mg fa h Y G hmg => ?_) (fun _ _ _ _ _ z => z)
  obtain ⟨K, KX, c, t⟩ := Y
  obtain ⟨cs, hcs, hcd⟩ := tabs_of t
  have hm : r ∈ rows := List.mem_of_getElem? hli
  have MO : ∀ base : Heap, (∀ p ∈ cs, LamX.TabB base mg p.1 p.2) → ModOk tb (cs.map (·.2)) rows CX0 (fun _ _ _ _ _ _ => False) l.prog w K mg base := fun base TB => mod_ok KX G c hf hg hr hb hbi hcd TB (fun _ _ _ _ _ z => z) (fun _ _ _ _ _ _ _ _ _ _ => fun _ _ _ _ _ _ _ z => z.elim)
  -- the law's own object
  have b1 := List.all_eq_true.mp hb r hm
  unfold Row.bare at b1
  obtain ⟨b1, b4⟩ := and1 b1
  obtain ⟨b2, b3⟩ := and1 b4
  obtain ⟨fd, F⟩ := says_def c (List.mem_map_of_mem (f := fun r : Row => r.d) hm)
  have e1 : r.d.dvs K = [] := by unfold He.DefD.dvs; rw [List.isEmpty_iff.mp b2]; rfl
  have e2 : r.d.kws K = [] := by unfold He.DefD.kws; rw [List.isEmpty_iff.mp b3]; rfl
  rw [e1, e2] at F
  have e3 : He.fAd K r.d.at_ = He.ga K r.d.at_.1 := by
    unfold He.fAd
    rw [Option.isNone_iff_eq_none.mp b1]
  have g := He.glo_ok KX G (says_fa c (List.mem_append_left _ (List.mem_map_of_mem (f := fun r : Row => He.Fa.glo r.d.at_.1) hm)))
  rw [hnm] at g
  have e4 := hmg.symm.trans g
  have e5 : fa = He.fAd K r.d.at_ := by
    rw [e3, hnm]
    exact Value.ref.inj (Option.some.inj e4)
  refine ⟨K, KX, fd, cs, spF K (cs.map (·.2)) (fun _ _ _ _ _ _ => False) (evF (tabF rows) (fuel + 1) li), fun p hp => (hcs p hp).2.1, fun p hp => (hcs p hp).2.2, fun p hp => (hcs p hp).1, fun s u => ?_, fun H a ns hl _ hT hS => ?_, fun base KB GB TB => ?_⟩
  · have z := F.bindsA (hbi r hm) s [u] (by rw [hps]; rfl)
    rw [hps] at z
    exact z
  · refine script_sp hS (fun P hP => ?_) (pure_ ns hl)
    obtain ⟨p, hp, e⟩ := List.mem_map.mp hP
    rw [← e]
    exact hT p hp
  · have MB := MO base TB
    obtain ⟨p, hp, hcd1⟩ := hcd r.d (List.mem_map_of_mem (f := fun r : Row => r.d) hm)
    obtain ⟨oc, od, dV, kV, doc, pm, an, cdv, ct, osl, hfd, lk, _⟩ := id F.ex
    have tbp := TB p hp
    have z := fn_step (glob_ok MB fuel) hli (hr r hm) F (code_fd hcd1 lk rfl) ⟨tbp.code, tbp.bm, tbp.gP⟩ (List.mem_map_of_mem hp) MB.pas
    rw [hps] at z
    rw [e5]
    exact z
end Rv

set_option Elab.async false
set_option linter.all false
set_option maxRecDepth 100000
set_option maxHeartbeats 4000000
namespace K75
open PySem PySem.Spec PyProof.Rows L2 Rv
def top (i : Nat) : Stmt := PySem.Challenge.pw_toldcost_k75_quotients_together.main.body.getD i (.Pass ⟨0, 0, 0, 0⟩)
def at_ (i : Nat) (x : Str) : He.DefD := ⟨(x, none), x, x, defArgs (top i), defBody (top i), defScope (top i), [], []⟩
def f0 : Fn := ⟨1, 1, (.seq (.ret (.and (.blt .isi (.cons (.var 0) (.cons (.tyc "int") .nil))) (.one (.not (.blt .isi (.cons (.var 0) (.cons (.tyc "bool") .nil))))))) .skip)⟩
def r0 : Rv.Row := ⟨at_ 1 "is_whole", ["value"], ["value"], f0⟩
def f1 : Fn := ⟨2, 2, (.seq (.par 0 1 (.blt .abs (.cons (.var 0) .nil)) (.blt .abs (.cons (.var 1) .nil))) (.seq (.whil 1000000000 (.var 1) (.seq (.par 0 1 (.var 1) (.bin .Mod (.var 0) (.var 1))) .skip)) (.seq (.ret (.var 0)) .skip)))⟩
def r1 : Rv.Row := ⟨at_ 3 "common_divisor", ["one", "two"], ["one", "two"], f1⟩
def f2 : Fn := ⟨2, 3, (.seq (.asg (.pt (.nm 2)) (.call 1 (.cons (.var 0) (.cons (.var 1) .nil)))) (.seq (.ret (.ite (.cmp .Lt (.var 1) (.con (.int 0))) (.tup (.cons (.bin .FloorDiv (.neg (.var 0)) (.var 2)) (.cons (.bin .FloorDiv (.neg (.var 1)) (.var 2)) .nil))) (.tup (.cons (.bin .FloorDiv (.var 0) (.var 2)) (.cons (.bin .FloorDiv (.var 1) (.var 2)) .nil))))) .skip))⟩
def r2 : Rv.Row := ⟨at_ 4 "quotient", ["top", "bottom", "divisor"], ["top", "bottom"], f2⟩
def f3 : Fn := ⟨1, 2, (.seq (.iff (.or (.not (.blt .isi (.cons (.var 0) (.cons (.tyc "tuple") .nil)))) (.or (.cmp .NotEq (.blt .len (.cons (.var 0) .nil)) (.con (.int 2))) (.one (.not (.allG [1] (.nm 1) (.seqI (.var 0)) (.call 0 (.cons (.var 1) .nil))))))) (.seq (.ret (.con (.bl false))) .skip) .skip) (.seq (.ret (.and (.cmp .Gt (.idx (.var 0) (.con (.int 1))) (.con (.int 0))) (.one (.cmp .Eq (.call 2 (.cons (.idx (.var 0) (.con (.int 0))) (.cons (.idx (.var 0) (.con (.int 1))) .nil))) (.var 0))))) .skip))⟩
def r3 : Rv.Row := ⟨at_ 5 "is_quotient", ["value", "own"], ["value"], f3⟩
def f4 : Fn := ⟨2, 2, (.seq (.ret (.call 2 (.cons (.bin .Add (.bin .Mult (.idx (.var 0) (.con (.int 0))) (.idx (.var 1) (.con (.int 1)))) (.bin .Mult (.idx (.var 1) (.con (.int 0))) (.idx (.var 0) (.con (.int 1))))) (.cons (.bin .Mult (.idx (.var 0) (.con (.int 1))) (.idx (.var 1) (.con (.int 1)))) .nil)))) .skip)⟩
def r4 : Rv.Row := ⟨at_ 6 "plus", ["one", "two"], ["one", "two"], f4⟩
def f5 : Fn := ⟨2, 2, (.seq (.ret (.call 2 (.cons (.bin .Sub (.bin .Mult (.idx (.var 0) (.con (.int 0))) (.idx (.var 1) (.con (.int 1)))) (.bin .Mult (.idx (.var 1) (.con (.int 0))) (.idx (.var 0) (.con (.int 1))))) (.cons (.bin .Mult (.idx (.var 0) (.con (.int 1))) (.idx (.var 1) (.con (.int 1)))) .nil)))) .skip)⟩
def r5 : Rv.Row := ⟨at_ 7 "minus", ["one", "two"], ["one", "two"], f5⟩
def f6 : Fn := ⟨2, 2, (.seq (.ret (.call 2 (.cons (.bin .Mult (.idx (.var 0) (.con (.int 0))) (.idx (.var 1) (.con (.int 0)))) (.cons (.bin .Mult (.idx (.var 0) (.con (.int 1))) (.idx (.var 1) (.con (.int 1)))) .nil)))) .skip)⟩
def r6 : Rv.Row := ⟨at_ 8 "times", ["one", "two"], ["one", "two"], f6⟩
def f7 : Fn := ⟨2, 2, (.seq (.ret (.cmp .Lt (.bin .Mult (.idx (.var 0) (.con (.int 0))) (.idx (.var 1) (.con (.int 1)))) (.bin .Mult (.idx (.var 1) (.con (.int 0))) (.idx (.var 0) (.con (.int 1)))))) .skip)⟩
def r7 : Rv.Row := ⟨at_ 9 "is_less", ["one", "two"], ["one", "two"], f7⟩
def f8 : Fn := ⟨1, 1, (.seq (.ret (.ite (.cmp .Eq (.idx (.var 0) (.con (.int 1))) (.con (.int 1))) (.blt .str (.cons (.idx (.var 0) (.con (.int 0))) .nil)) (.bin .Add (.bin .Add (.blt .str (.cons (.idx (.var 0) (.con (.int 0))) .nil)) (.con (.str "/"))) (.blt .str (.cons (.idx (.var 0) (.con (.int 1))) .nil))))) .skip)⟩
def r8 : Rv.Row := ⟨at_ 10 "write_quotient", ["own"], ["own"], f8⟩
def f9 : Fn := ⟨1, 5, (.seq (.asg (.pt (.tp (.cons (.nm 1) (.cons (.nm 2) (.cons (.nm 3) .nil))))) (.mth .partition (.var 0) (.cons (.con (.str "/")) .nil))) (.seq (.iff (.or (.not (.call 10 (.cons (.var 1) .nil))) (.one (.and (.cmp .Eq (.var 2) (.con (.str "/"))) (.one (.not (.call 10 (.cons (.var 3) .nil))))))) (.seq (.ret (.con .non)) .skip) .skip) (.seq (.asg (.pt (.nm 4)) (.tup (.cons (.blt .int (.cons (.var 1) .nil)) (.cons (.ite (.cmp .Eq (.var 2) (.con (.str "/"))) (.blt .int (.cons (.var 3) .nil)) (.con (.int 1))) .nil)))) (.seq (.ret (.ite (.and (.call 3 (.cons (.var 4) .nil)) (.one (.cmp .Eq (.call 8 (.cons (.var 4) .nil)) (.var 0)))) (.var 4) (.con .non))) .skip))))⟩
def r9 : Rv.Row := ⟨at_ 11 "read_quotient", ["text", "top", "bar", "bottom", "own"], ["text"], f9⟩
def f10 : Fn := ⟨1, 3, (.seq (.asg (.pt (.nm 1)) (.ite (.cmp .Eq (.slc (.var 0) .miss (.one (.con (.int 1)))) (.con (.str "-"))) (.slc (.var 0) (.one (.con (.int 1))) .miss) (.var 0))) (.seq (.ret (.and (.cmp2 .LtE .LtE (.con (.int 1)) (.blt .len (.cons (.var 1) .nil)) (.con (.int 12))) (.one (.allG [2] (.nm 2) (.seqI (.var 1)) (.cmp .In (.var 2) (.con (.str "0123456789"))))))) .skip))⟩
def r10 : Rv.Row := ⟨at_ 12 "is_number_text", ["text", "figures", "sign"], ["text"], f10⟩
def f11 : Fn := ⟨3, 3, (.seq (.ret (.lst (.cons (.call 12 (.cons (.var 0) (.cons (.var 1) (.cons (.var 2) .nil)))) (.cons (.con (.int 0)) .nil)))) .skip)⟩
def r11 : Rv.Row := ⟨at_ 14 "_law_box", ["script", "first", "last"], ["script", "first", "last"], f11⟩
def f12 : Fn := ⟨3, 8, (.seq (.asg (.pt (.nm 3)) (.lst .nil)) (.seq (.forr (.nm 4) (.range2 (.var 1) (.var 2)) (.seq (.asg (.pt (.nm 5)) (.call 13 (.cons (.var 0) (.cons (.var 4) .nil)))) (.seq (.iff (.cmp .Lt (.var 5) (.con (.int 0))) (.seq (.asg (.pt (.nm 5)) (.bin .Sub (.con (.int 1)) (.bin .Mult (.con (.int 2)) (.var 5)))) .skip) .skip) (.seq (.iff (.cmp .GtE (.var 5) (.bin .Pow (.con (.int 10)) (.con (.int 18)))) (.seq (.forr (.nm 6) (.range1 (.con (.int 60))) (.seq (.iff (.cmp .Gt (.var 5) (.con (.int 0))) (.seq (.expr (.mth .append (.var 3) (.cons (.bin .Mod (.blt .int (.cons (.var 5) .nil)) (.con (.int 1000))) .nil))) (.seq (.asg (.pt (.nm 5)) (.bin .FloorDiv (.var 5) (.con (.int 1000)))) .skip)) .skip) .skip)) .skip) (.seq (.asg (.pt (.nm 7)) (.bin .Mod (.blt .int (.cons (.bin .Add (.bin .Add (.bin .Mult (.var 5) (.con (.int 48271))) (.bin .Mult (.var 4) (.con (.int 69621)))) (.con (.int 11))) .nil)) (.con (.int 2147483647)))) (.seq (.forr (.nm 6) (.range1 (.con (.int 12))) (.seq (.asg (.pt (.nm 7)) (.bin .Mod (.blt .int (.cons (.bin .Add (.bin .Add (.bin .Mult (.var 7) (.con (.int 16807))) (.bin .Mult (.con (.int 7)) (.var 6))) (.con (.int 1))) .nil)) (.con (.int 2147483647)))) (.seq (.expr (.mth .append (.var 3) (.cons (.bin .Mod (.blt .int (.cons (.bin .FloorDiv (.var 7) (.con (.int 997))) .nil)) (.con (.int 1000))) .nil))) .skip))) .skip))) .skip)))) (.seq (.ret (.var 3)) .skip)))⟩
def r12 : Rv.Row := ⟨at_ 15 "_law_digits", ["script", "first", "last", "digits", "k", "cell", "turn", "seed"], ["script", "first", "last"], f12⟩
def f13 : Fn := ⟨2, 2, (.seq (.iff (.cmp .Lt (.var 1) (.blt .len (.cons (.var 0) .nil))) (.seq (.ret (.idx (.var 0) (.var 1))) .skip) .skip) (.seq (.ret (.con (.int 0))) .skip))⟩
def r13 : Rv.Row := ⟨at_ 16 "_law_cell", ["script", "k"], ["script", "k"], f13⟩
def f14 : Fn := ⟨1, 3, (.seq (.asg (.pt (.nm 1)) (.bin .Sub (.call 15 (.cons (.var 0) (.cons (.con (.int 19)) .nil))) (.con (.int 9)))) (.seq (.asg (.pt (.nm 2)) (.idx (.lst (.cons (.con (.int 1)) (.cons (.con (.int 2)) (.cons (.con (.int 3)) (.cons (.con (.int 4)) (.cons (.con (.int 6)) (.cons (.con (.int 12)) (.cons (.con (.int 5)) .nil)))))))) (.call 15 (.cons (.var 0) (.cons (.con (.int 7)) .nil))))) (.seq (.ret (.call 2 (.cons (.var 1) (.cons (.var 2) .nil)))) .skip)))⟩
def r14 : Rv.Row := ⟨at_ 17 "_law_drawn_quotient", ["box", "top", "bottom"], ["box"], f14⟩
def f15 : Fn := ⟨2, 3, (.seq (.asg (.pt (.nm 2)) (.idx (.var 0) (.con (.int 1)))) (.seq (.asg (.sub (.var 0) (.con (.int 1))) (.bin .Add (.var 2) (.con (.int 1)))) (.seq (.iff (.cmp .Lt (.var 2) (.blt .len (.cons (.idx (.var 0) (.con (.int 0))) .nil))) (.seq (.ret (.bin .Mod (.blt .int (.cons (.idx (.idx (.var 0) (.con (.int 0))) (.var 2)) .nil)) (.var 1))) .skip) .skip) (.seq (.ret (.con (.int 0))) .skip))))⟩
def r15 : Rv.Row := ⟨at_ 18 "_law_draw", ["box", "many", "at"], ["box", "many"], f15⟩
def f16 : Fn := ⟨2, 3, (.seq (.iff (.blt .isi (.cons (.var 1) (.cons (.tyc "tuple") .nil))) (.seq (.iff (.or (.not (.blt .isi (.cons (.var 0) (.cons (.tyc "tuple") .nil)))) (.one (.cmp .NotEq (.blt .len (.cons (.var 0) .nil)) (.blt .len (.cons (.var 1) .nil))))) (.seq (.ret (.con (.bl false))) .skip) .skip) (.seq (.forr (.nm 2) (.range1 (.blt .len (.cons (.var 1) .nil))) (.seq (.iff (.not (.call 16 (.cons (.idx (.var 0) (.var 2)) (.cons (.idx (.var 1) (.var 2)) .nil)))) (.seq (.ret (.con (.bl false))) .skip) .skip) .skip)) (.seq (.ret (.con (.bl true))) .skip))) .skip) (.seq (.iff (.cmp .Is (.var 1) (.con .non)) (.seq (.ret (.cmp .Is (.var 0) (.con .non))) .skip) .skip) (.seq (.iff (.blt .isi (.cons (.var 1) (.cons (.tyc "bool") .nil))) (.seq (.ret (.and (.blt .isi (.cons (.var 0) (.cons (.tyc "bool") .nil))) (.one (.cmp .Eq (.var 0) (.var 1))))) .skip) .skip) (.seq (.iff (.blt .isi (.cons (.var 1) (.cons (.tyc "int") .nil))) (.seq (.ret (.and (.blt .isi (.cons (.var 0) (.cons (.tyc "int") .nil))) (.and (.not (.blt .isi (.cons (.var 0) (.cons (.tyc "bool") .nil)))) (.one (.cmp .Eq (.var 0) (.var 1)))))) .skip) .skip) (.seq (.ret (.and (.blt .isi (.cons (.var 0) (.cons (.tyc "str") .nil))) (.one (.cmp .Eq (.var 0) (.var 1))))) .skip)))))⟩
def r16 : Rv.Row := ⟨at_ 19 "_law_same", ["actual", "expected", "k"], ["actual", "expected"], f16⟩
def f17 : Fn := ⟨1, 1, (.seq (.iff (.cmp .Eq (.idx (.var 0) (.con (.int 1))) (.con (.int 1))) (.seq (.ret (.blt .str (.cons (.idx (.var 0) (.con (.int 0))) .nil))) .skip) .skip) (.seq (.ret (.bin .Add (.bin .Add (.blt .str (.cons (.idx (.var 0) (.con (.int 0))) .nil)) (.con (.str "/"))) (.blt .str (.cons (.idx (.var 0) (.con (.int 1))) .nil)))) .skip))⟩
def r17 : Rv.Row := ⟨at_ 20 "_law_quotient_text", ["own"], ["own"], f17⟩
def f18 : Fn := ⟨1, 11, (.seq (.asg (.pt (.nm 1)) (.call 11 (.cons (.var 0) (.cons (.con (.int 0)) (.cons (.con (.int 62)) .nil))))) (.seq (.forr (.nm 2) (.range1 (.con (.int 8))) (.seq (.asg (.pt (.nm 3)) (.call 14 (.cons (.var 1) .nil))) (.seq (.asg (.pt (.nm 4)) (.call 14 (.cons (.var 1) .nil))) (.seq (.asg (.pt (.nm 5)) (.call 14 (.cons (.var 1) .nil))) (.seq (.asg (.pt (.nm 6)) (.call 4 (.cons (.var 3) (.cons (.var 4) .nil)))) (.seq (.iff (.or (.not (.call 16 (.cons (.var 6) (.cons (.call 4 (.cons (.var 4) (.cons (.var 3) .nil))) .nil)))) (.one (.not (.call 16 (.cons (.call 4 (.cons (.var 6) (.cons (.var 5) .nil))) (.cons (.call 4 (.cons (.var 3) (.cons (.call 4 (.cons (.var 4) (.cons (.var 5) .nil))) .nil))) .nil)))))) (.seq (.ret (.con (.bl false))) .skip) .skip) (.seq (.iff (.or (.not (.call 16 (.cons (.call 6 (.cons (.var 3) (.cons (.call 4 (.cons (.var 4) (.cons (.var 5) .nil))) .nil))) (.cons (.call 4 (.cons (.call 6 (.cons (.var 3) (.cons (.var 4) .nil))) (.cons (.call 6 (.cons (.var 3) (.cons (.var 5) .nil))) .nil))) .nil)))) (.one (.not (.call 16 (.cons (.call 6 (.cons (.var 3) (.cons (.var 4) .nil))) (.cons (.call 6 (.cons (.var 4) (.cons (.var 3) .nil))) .nil)))))) (.seq (.ret (.con (.bl false))) .skip) .skip) (.seq (.iff (.or (.not (.call 16 (.cons (.call 5 (.cons (.var 6) (.cons (.var 4) .nil))) (.cons (.var 3) .nil)))) (.or (.not (.call 16 (.cons (.call 5 (.cons (.var 3) (.cons (.var 3) .nil))) (.cons (.tup (.cons (.con (.int 0)) (.cons (.con (.int 1)) .nil))) .nil)))) (.one (.not (.call 16 (.cons (.call 6 (.cons (.var 3) (.cons (.tup (.cons (.con (.int 1)) (.cons (.con (.int 1)) .nil))) .nil))) (.cons (.var 3) .nil))))))) (.seq (.ret (.con (.bl false))) .skip) .skip) (.seq (.iff (.or (.not (.call 16 (.cons (.call 7 (.cons (.var 3) (.cons (.var 4) .nil))) (.cons (.call 7 (.cons (.call 4 (.cons (.var 3) (.cons (.var 5) .nil))) (.cons (.call 4 (.cons (.var 4) (.cons (.var 5) .nil))) .nil))) .nil)))) (.one (.cmp .IsNot (.call 7 (.cons (.var 3) (.cons (.var 3) .nil))) (.con (.bl false))))) (.seq (.ret (.con (.bl false))) .skip) .skip) (.seq (.iff (.cmp .NotEq (.mth .countB (.lst (.cons (.call 7 (.cons (.var 3) (.cons (.var 4) .nil))) (.cons (.call 7 (.cons (.var 4) (.cons (.var 3) .nil))) (.cons (.cmp .Eq (.var 3) (.var 4)) .nil)))) (.cons (.con (.bl true)) .nil)) (.con (.int 1))) (.seq (.ret (.con (.bl false))) .skip) .skip) (.seq (.iff (.not (.call 16 (.cons (.call 7 (.cons (.var 3) (.cons (.var 4) .nil))) (.cons (.cmp .Lt (.idx (.call 5 (.cons (.var 3) (.cons (.var 4) .nil))) (.con (.int 0))) (.con (.int 0))) .nil)))) (.seq (.ret (.con (.bl false))) .skip) .skip) (.seq (.forr (.nm 7) (.seqI (.lst (.cons (.var 3) (.cons (.var 6) (.cons (.call 6 (.cons (.var 3) (.cons (.var 4) .nil))) (.cons (.call 5 (.cons (.var 3) (.cons (.var 4) .nil))) .nil)))))) (.seq (.iff (.or (.cmp .IsNot (.call 3 (.cons (.var 7) .nil)) (.con (.bl true))) (.or (.cmp .Lt (.idx (.var 7) (.con (.int 1))) (.con (.int 1))) (.one (.cmp .Gt (.blt .len (.cons (.lc [8] (.nm 8) (.range2 (.con (.int 2)) (.con (.int 150))) (.one (.and (.cmp .Eq (.bin .Mod (.blt .int (.cons (.idx (.var 7) (.con (.int 0))) .nil)) (.var 8)) (.con (.int 0))) (.one (.cmp .Eq (.bin .Mod (.blt .int (.cons (.idx (.var 7) (.con (.int 1))) .nil)) (.var 8)) (.con (.int 0)))))) (.var 8)) .nil)) (.con (.int 0)))))) (.seq (.ret (.con (.bl false))) .skip) .skip) (.seq (.asg (.pt (.nm 9)) (.call 17 (.cons (.var 7) .nil))) (.seq (.iff (.cmp .NotEq (.call 8 (.cons (.var 7) .nil)) (.var 9)) (.seq (.ret (.con (.bl false))) .skip) .skip) (.seq (.iff (.and (.cmp .GtE (.idx (.var 7) (.con (.int 0))) (.con (.int 0))) (.one (.not (.call 16 (.cons (.call 9 (.cons (.var 9) .nil)) (.cons (.var 7) .nil)))))) (.seq (.ret (.con (.bl false))) .skip) .skip) (.seq (.asg (.pt (.nm 10)) (.bin .Add (.call 15 (.cons (.var 1) (.cons (.con (.int 9)) .nil))) (.con (.int 1)))) (.seq (.iff (.or (.not (.call 16 (.cons (.call 2 (.cons (.bin .Mult (.idx (.var 7) (.con (.int 0))) (.var 10)) (.cons (.bin .Mult (.idx (.var 7) (.con (.int 1))) (.var 10)) .nil))) (.cons (.var 7) .nil)))) (.one (.not (.call 16 (.cons (.call 2 (.cons (.bin .Sub (.con (.int 0)) (.bin .Mult (.idx (.var 7) (.con (.int 0))) (.var 10))) (.cons (.bin .Sub (.con (.int 0)) (.bin .Mult (.idx (.var 7) (.con (.int 1))) (.var 10))) .nil))) (.cons (.var 7) .nil)))))) (.seq (.ret (.con (.bl false))) .skip) .skip) (.seq (.iff (.and (.cmp .Gt (.var 10) (.con (.int 1))) (.one (.cmp .IsNot (.call 3 (.cons (.tup (.cons (.bin .Mult (.idx (.var 7) (.con (.int 0))) (.var 10)) (.cons (.bin .Mult (.idx (.var 7) (.con (.int 1))) (.var 10)) .nil))) .nil)) (.con (.bl false))))) (.seq (.ret (.con (.bl false))) .skip) .skip) .skip)))))))) .skip)))))))))))) (.seq (.forr (.nm 9) (.seqI (.lst (.cons (.con (.str "")) (.cons (.con (.str "1/")) (.cons (.con (.str "/2")) (.cons (.con (.str "2/4")) (.cons (.con (.str "1/1")) (.cons (.con (.str "0/1")) (.cons (.con (.str "01")) (.cons (.con (.str "1/02")) (.cons (.con (.str "1/0")) (.cons (.con (.str " 1")) (.cons (.con (.str "1 ")) (.cons (.con (.str "1/2/3")) (.cons (.con (.str "x")) (.cons (.con (.str "+1")) (.cons (.con (.str "1.5")) (.cons (.con (.str "1234567890123")) (.cons (.con (.str "1/1234567890123")) .nil))))))))))))))))))) (.seq (.iff (.cmp .IsNot (.call 9 (.cons (.var 9) .nil)) (.con .non)) (.seq (.ret (.con (.bl false))) .skip) .skip) .skip)) (.seq (.ret (.con (.bl true))) .skip))))⟩
def r18 : Rv.Row := ⟨at_ 21 "law", ["script", "box", "turn", "one", "two", "three", "both", "own", "k", "text", "by"], ["script"], f18⟩
def rows : List Rv.Row := [r0, r1, r2, r3, r4, r5, r6, r7, r8, r9, r10, r11, r12, r13, r14, r15, r16, r17, r18]
def tb : Tb := ⟨["is_whole", "common_divisor", "quotient", "is_quotient", "plus", "minus", "times", "is_less", "write_quotient", "read_quotient", "is_number_text", "_law_box", "_law_digits", "_law_cell", "_law_drawn_quotient", "_law_draw", "_law_same", "_law_quotient_text", "law"], ["isinstance", "bool", "int", "abs", "all", "len", "tuple", "str", "range"], []⟩
theorem ok0 : r0.ok tb = true := by decide +kernel
theorem ok1 : r1.ok tb = true := by decide +kernel
theorem ok2 : r2.ok tb = true := by decide +kernel
theorem ok3 : r3.ok tb = true := by decide +kernel
theorem ok4 : r4.ok tb = true := by decide +kernel
theorem ok5 : r5.ok tb = true := by decide +kernel
theorem ok6 : r6.ok tb = true := by decide +kernel
theorem ok7 : r7.ok tb = true := by decide +kernel
theorem ok8 : r8.ok tb = true := by decide +kernel
theorem ok9 : r9.ok tb = true := by decide +kernel
theorem ok10 : r10.ok tb = true := by decide +kernel
theorem ok11 : r11.ok tb = true := by decide +kernel
theorem ok12 : r12.ok tb = true := by decide +kernel
theorem ok13 : r13.ok tb = true := by decide +kernel
theorem ok14 : r14.ok tb = true := by decide +kernel
theorem ok15 : r15.ok tb = true := by decide +kernel
theorem ok16 : r16.ok tb = true := by decide +kernel
theorem ok17 : r17.ok tb = true := by decide +kernel
theorem ok18 : r18.ok tb = true := by decide +kernel
theorem all_ok : ∀ r ∈ rows, r.ok tb = true := List.forall_mem_cons.mpr ⟨ok0, List.forall_mem_cons.mpr ⟨ok1, List.forall_mem_cons.mpr ⟨ok2, List.forall_mem_cons.mpr ⟨ok3, List.forall_mem_cons.mpr ⟨ok4, List.forall_mem_cons.mpr ⟨ok5, List.forall_mem_cons.mpr ⟨ok6, List.forall_mem_cons.mpr ⟨ok7, List.forall_mem_cons.mpr ⟨ok8, List.forall_mem_cons.mpr ⟨ok9, List.forall_mem_cons.mpr ⟨ok10, List.forall_mem_cons.mpr ⟨ok11, List.forall_mem_cons.mpr ⟨ok12, List.forall_mem_cons.mpr ⟨ok13, List.forall_mem_cons.mpr ⟨ok14, List.forall_mem_cons.mpr ⟨ok15, List.forall_mem_cons.mpr ⟨ok16, List.forall_mem_cons.mpr ⟨ok17, List.forall_mem_cons.mpr ⟨ok18, (by simp)⟩⟩⟩⟩⟩⟩⟩⟩⟩⟩⟩⟩⟩⟩⟩⟩⟩⟩⟩
theorem b0 : r0.binds := fun _ _ _ _ _ _ us hl => match us, hl with | [_], _ => rfl
theorem b1 : r1.binds := fun _ _ _ _ _ _ us hl => match us, hl with | [_, _], _ => rfl
theorem b2 : r2.binds := fun _ _ _ _ _ _ us hl => match us, hl with | [_, _], _ => rfl
theorem b3 : r3.binds := fun _ _ _ _ _ _ us hl => match us, hl with | [_], _ => rfl
theorem b4 : r4.binds := fun _ _ _ _ _ _ us hl => match us, hl with | [_, _], _ => rfl
theorem b5 : r5.binds := fun _ _ _ _ _ _ us hl => match us, hl with | [_, _], _ => rfl
theorem b6 : r6.binds := fun _ _ _ _ _ _ us hl => match us, hl with | [_, _], _ => rfl
theorem b7 : r7.binds := fun _ _ _ _ _ _ us hl => match us, hl with | [_, _], _ => rfl
theorem b8 : r8.binds := fun _ _ _ _ _ _ us hl => match us, hl with | [_], _ => rfl
theorem b9 : r9.binds := fun _ _ _ _ _ _ us hl => match us, hl with | [_], _ => rfl
theorem b10 : r10.binds := fun _ _ _ _ _ _ us hl => match us, hl with | [_], _ => rfl
theorem b11 : r11.binds := fun _ _ _ _ _ _ us hl => match us, hl with | [_, _, _], _ => rfl
theorem b12 : r12.binds := fun _ _ _ _ _ _ us hl => match us, hl with | [_, _, _], _ => rfl
theorem b13 : r13.binds := fun _ _ _ _ _ _ us hl => match us, hl with | [_, _], _ => rfl
theorem b14 : r14.binds := fun _ _ _ _ _ _ us hl => match us, hl with | [_], _ => rfl
theorem b15 : r15.binds := fun _ _ _ _ _ _ us hl => match us, hl with | [_, _], _ => rfl
theorem b16 : r16.binds := fun _ _ _ _ _ _ us hl => match us, hl with | [_, _], _ => rfl
theorem b17 : r17.binds := fun _ _ _ _ _ _ us hl => match us, hl with | [_], _ => rfl
theorem b18 : r18.binds := fun _ _ _ _ _ _ us hl => match us, hl with | [_], _ => rfl
theorem all_b : ∀ r ∈ rows, r.binds := List.forall_mem_cons.mpr ⟨b0, List.forall_mem_cons.mpr ⟨b1, List.forall_mem_cons.mpr ⟨b2, List.forall_mem_cons.mpr ⟨b3, List.forall_mem_cons.mpr ⟨b4, List.forall_mem_cons.mpr ⟨b5, List.forall_mem_cons.mpr ⟨b6, List.forall_mem_cons.mpr ⟨b7, List.forall_mem_cons.mpr ⟨b8, List.forall_mem_cons.mpr ⟨b9, List.forall_mem_cons.mpr ⟨b10, List.forall_mem_cons.mpr ⟨b11, List.forall_mem_cons.mpr ⟨b12, List.forall_mem_cons.mpr ⟨b13, List.forall_mem_cons.mpr ⟨b14, List.forall_mem_cons.mpr ⟨b15, List.forall_mem_cons.mpr ⟨b16, List.forall_mem_cons.mpr ⟨b17, List.forall_mem_cons.mpr ⟨b18, (by simp)⟩⟩⟩⟩⟩⟩⟩⟩⟩⟩⟩⟩⟩⟩⟩⟩⟩⟩⟩
end K75

set_option Elab.async false
set_option linter.all false
set_option maxRecDepth 100000
set_option maxHeartbeats 4000000
namespace Rv
theorem evF_at {F : Nat → Option Fn} {k i : Nat} {f : Fn} {ds : List D} {S : Sto} (h : F i = some f) (hl : ds.length = f.np) : evF F (k + 1) i ds S = (evS (evF F k) f.body (startD f.ns ds) S).res := by
  show (match F i with | none => Res.bad | some f => if ds.length = f.np then (evS (evF F k) f.body (startD f.ns ds) S).res else .bad) = _
  rw [h]
  exact if_pos hl
end Rv
namespace K75
open PySem Rv
def T (k : Nat) := evF (tabF rows) k
theorem T_at {k i : Nat} {f : Fn} {ds : List D} {S : Sto} (h : tabF rows i = some f) (hl : ds.length = f.np) : T (k + 1) i ds S = (evS (T k) f.body (startD f.ns ds) S).res := evF_at h hl
theorem gcd_loop (k : Nat) (S : Sto) : ∀ (n x y : Nat), y < n → whiL (fun ρ S => evT (T k) (.var 1) ρ S) (fun ρ S => evS (T k) (.seq (.par 0 1 (.var 1) (.bin .Mod (.var 0) (.var 1))) .skip) ρ S) n [some (.int x), some (.int y)] S = .next [some (.int (Nat.gcd x y)), some (.int 0)] S
  | 0, x, y, h => by omega
  | n + 1, x, y, h => by
    unfold whiL
    show (Res.of (some ((y : Int) != 0)) S).sr _ = _
    simp only [Res.of_some, Res.sr_ok]
    by_cases hy : y = 0
    · subst hy
      rw [if_neg (by decide), Nat.gcd_zero_right]
      rfl
    · have hp : (0 : Int) < y := by omega
      have ih := gcd_loop k S n y (x % y) (by have := Nat.mod_lt x (Nat.pos_of_ne_zero hy); omega)
      have hg : Nat.gcd y (x % y) = Nat.gcd x y := by rw [Nat.gcd_comm x y, Nat.gcd_rec y x, Nat.gcd_comm]
      rw [hg] at ih
      rw [if_pos (by simp; omega)]
      have e : evS (T k) (.seq (.par 0 1 (.var 1) (.bin .Mod (.var 0) (.var 1))) .skip) [some (.int x), some (.int y)] S = .next [some (.int y), some (.int ((x % y : Nat) : Int))] S := by
        show (((if 0 < (y : Int) then Res.ok (.int ((x : Int) % y)) S else .bad : Res D).sr fun z S2 => SR.next [some (.int y), some z] S2).then _) = _
        rw [if_pos hp]
        rfl
      rw [e]
      exact ih
theorem L_gcd (k : Nat) (S : Sto) (a b : Int) (hb : b.natAbs < 1000000000) : T (k + 1) 1 [.int a, .int b] S = .ok (.int (Int.gcd a b)) S := by
  rw [T_at (f := f1) rfl rfl]
  have ea : ∀ i : Int, (if i < 0 then -i else i) = (i.natAbs : Int) := fun i => by split <;> omega
  have hl := gcd_loop k S 1000000000 a.natAbs b.natAbs hb
  show (SR.then (SR.next [some (.int (if a < 0 then -a else a)), some (.int (if b < 0 then -b else b))] S) fun ρ S => (whiL (fun ρ S => evT (T k) (.var 1) ρ S) (fun ρ S => evS (T k) (.seq (.par 0 1 (.var 1) (.bin .Mod (.var 0) (.var 1))) .skip) ρ S) 1000000000 ρ S).then _).res = _
  rw [ea, ea, SR.then_next, hl]
  rfl
/-- a quotient as a pair -/
def Q (r : Rat) : D := .tup [.int r.num, .int r.den]
theorem log_small {n : Nat} (h0 : n ≠ 0) (h : n < 1000000000) : n.log2 < 9000 := by
  have e : n.log2 < 30 := (Nat.log2_lt h0).mpr (by omega)
  omega
theorem two_line : 0 + 1 + 1 ≤ sizeLine := by decide
theorem nb (d : Nat) : ((d : Int)).natAbs = d := Int.natAbs_natCast d
theorem L_quot (k : Nat) (S : Sto) (a b : Int) (hb : b ≠ 0) (hs : b.natAbs < 1000000000) : T (k + 2) 2 [.int a, .int b] S = .ok (Q (Rat.divInt a b)) S := by
  rw [T_at (f := f2) rfl rfl]
  have g0 : a.gcd b ≠ 0 := fun z => hb (Int.gcd_eq_zero_iff.mp z).2
  have gl : a.gcd b ≤ b.natAbs := Nat.le_of_dvd (by omega) (Int.gcd_dvd_natAbs_right a b)
  have hc : 0 < ((a.gcd b : Nat) : Int) ∧ ((a.gcd b : Nat) : Int).natAbs.log2 < 9000 := ⟨by omega, by rw [Int.natAbs_natCast]; exact log_small g0 (by omega)⟩
  have en : (Rat.divInt a b).num = b.sign * a / (a.gcd b : Nat) := by rw [Rat.num_divInt, Int.gcd_comm]
  have ed : (((Rat.divInt a b).den : Nat) : Int) = (b.natAbs : Int) / (a.gcd b : Nat) := by rw [Rat.den_divInt, if_neg hb, Int.gcd_comm]; exact Int.natCast_ediv _ _
  unfold Q
  rw [en, ed]
  simp -implicitDefEqProofs only [f2, startD, evS, evE, evA, evT, evG, evO, evI, evC, bindP, Res.bind_ok, List.length_cons, List.length_nil, List.map_cons, List.map_nil, List.cons_append, List.nil_append, List.getElem?_cons_zero, List.getElem?_cons_succ, Option.join_some, Res.of_some, Res.of_none, Res.sr_ok, SR.then_next, List.replicate, List.set_cons_zero, List.set_cons_succ, cmpB, ordB, C.d, binD, negD, SR.then_ret, SR.res, Option.map_some, bltD, mthD, L_gcd k S a b hs]
  simp only [if_pos hc, Res.bind_ok]
  by_cases h : b < 0
  · have e1 : b.sign * a = -a := by rw [Int.sign_eq_neg_one_of_neg h]; omega
    have e2 : (b.natAbs : Int) = -b := by omega
    rw [e1, e2]
    simp only [decide_eq_true h, if_true, Res.bind_ok, List.length_cons, List.length_nil, if_pos two_line, Res.sr_ok, SR.then_ret]
  · have e1 : b.sign * a = a := by rw [Int.sign_eq_one_of_pos (by omega)]; omega
    have e2 : (b.natAbs : Int) = b := by omega
    rw [e1, e2]
    simp only [decide_eq_false h, Bool.false_eq_true, if_false, Res.bind_ok, List.length_cons, List.length_nil, if_pos two_line, Res.sr_ok, SR.then_ret]
def Bd (r : Rat) (n : Nat) : Prop := r.num.natAbs ≤ n ∧ r.den ≤ n
theorem Bd.mono {r : Rat} {m n : Nat} (h : Bd r m) (l : m ≤ n) : Bd r n := ⟨Nat.le_trans h.1 l, Nat.le_trans h.2 l⟩
theorem dn {r : Rat} {n : Nat} (h : Bd r n) : ((r.den : Int)).natAbs ≤ n := by rw [nb]; exact h.2
theorem bd_div {a b : Int} {n : Nat} (hb : b ≠ 0) (h1 : a.natAbs ≤ n) (h2 : b.natAbs ≤ n) : Bd (Rat.divInt a b) n := by
  refine ⟨?_, ?_⟩
  · rw [Rat.num_divInt]
    refine Nat.le_trans ?_ h1
    have : (b.sign * a).natAbs = a.natAbs := by rw [Int.natAbs_mul, Int.natAbs_sign_of_ne_zero hb, Nat.one_mul]
    rw [← this]
    exact Int.natAbs_ediv_le_natAbs _ _
  · rw [Rat.den_divInt, if_neg hb]
    exact Nat.le_trans (Nat.div_le_self _ _) h2
theorem add_div (a b : Rat) : Rat.divInt (a.num * b.den + b.num * a.den) (a.den * b.den) = a + b := by
  have h := Rat.divInt_add_divInt a.num b.num (d₁ := a.den) (d₂ := b.den) (by have := a.den_nz; omega) (by have := b.den_nz; omega)
  rw [Rat.num_divInt_den, Rat.num_divInt_den] at h
  exact h.symm
theorem sub_div (a b : Rat) : Rat.divInt (a.num * b.den - b.num * a.den) (a.den * b.den) = a - b := by
  have h := Rat.divInt_sub_divInt a.num b.num (d₁ := a.den) (d₂ := b.den) (by have := a.den_nz; omega) (by have := b.den_nz; omega)
  rw [Rat.num_divInt_den, Rat.num_divInt_den] at h
  exact h.symm
theorem mul_div (a b : Rat) : Rat.divInt (a.num * b.num) (a.den * b.den) = a * b := by
  have h := Rat.divInt_mul_divInt a.num b.num (d₁ := a.den) (d₂ := b.den)
  rw [Rat.num_divInt_den, Rat.num_divInt_den] at h
  exact h.symm
theorem den_ne (a b : Rat) : ((a.den : Int) * b.den) ≠ 0 := Int.mul_ne_zero (by have := a.den_nz; omega) (by have := b.den_nz; omega)
theorem abs_mul_le {x y : Int} {m n : Nat} (h1 : x.natAbs ≤ m) (h2 : y.natAbs ≤ n) : (x * y).natAbs ≤ m * n := by rw [Int.natAbs_mul]; exact Nat.mul_le_mul h1 h2
theorem bd_add {a b : Rat} {m n : Nat} (h1 : Bd a m) (h2 : Bd b n) : Bd (a + b) (2 * (m * n)) := by
  rw [← add_div]
  have e1 := abs_mul_le h1.1 (dn h2)
  have e2 := abs_mul_le h2.1 (dn h1)
  have e3 := abs_mul_le (dn h1) (dn h2)
  rw [Nat.mul_comm n m] at e2
  exact bd_div (den_ne a b) (by omega) (by omega)
theorem bd_sub {a b : Rat} {m n : Nat} (h1 : Bd a m) (h2 : Bd b n) : Bd (a - b) (2 * (m * n)) := by
  rw [← sub_div]
  have e1 := abs_mul_le h1.1 (dn h2)
  have e2 := abs_mul_le h2.1 (dn h1)
  have e3 := abs_mul_le (dn h1) (dn h2)
  rw [Nat.mul_comm n m] at e2
  exact bd_div (den_ne a b) (by omega) (by omega)
theorem bd_mul {a b : Rat} {m n : Nat} (h1 : Bd a m) (h2 : Bd b n) : Bd (a * b) (m * n) := by
  rw [← mul_div]
  have e1 := abs_mul_le h1.1 h2.1
  have e3 := abs_mul_le (dn h1) (dn h2)
  exact bd_div (den_ne a b) (by omega) (by omega)
theorem prod_small {x y : Int} (h1 : x.natAbs ≤ 30000) (h2 : y.natAbs ≤ 30000) : (x * y).natAbs < 1000000000 := Nat.lt_of_le_of_lt (abs_mul_le h1 h2) (by decide)
theorem mul_ok {x : Int} (y : Int) (h : x.natAbs ≤ 30000) : mulOk x y = true := by
  unfold mulOk
  rw [decide_eq_true (.inl (by omega))]
  rfl
theorem ix0 (S : Sto) (x y : D) : idxD S (.tup [x, y]) (.int 0) = some x := Eq.trans rfl rfl
theorem ix1 (S : Sto) (x y : D) : idxD S (.tup [x, y]) (.int 1) = some y := Eq.trans rfl rfl
end K75

set_option Elab.async false
set_option linter.all false
set_option maxRecDepth 100000
set_option maxHeartbeats 4000000
namespace K75
open PySem Rv
section
variable (k : Nat) (S : Sto) (a b : Rat)
theorem L_plus (h1 : Bd a 30000) (h2 : Bd b 30000) : T (k + 3) 4 [Q a, Q b] S = .ok (Q (a + b)) S := by
  rw [T_at (f := f4) rfl rfl]
  have q := L_quot k S (a.num * b.den + b.num * a.den) (a.den * b.den) (den_ne a b) (prod_small (dn h1) (dn h2))
  rw [add_div] at q
  generalize T (k + 2) = U at q ⊢
  simp -implicitDefEqProofs only [f4, startD, evS, evE, evA, evT, evG, evO, evI, evC, bindP, Res.bind_ok, List.length_cons, List.length_nil, List.map_cons, List.map_nil, List.cons_append, List.nil_append, List.getElem?_cons_zero, List.getElem?_cons_succ, Option.join_some, Res.of_some, Res.of_none, Res.sr_ok, SR.then_next, List.replicate, List.set_cons_zero, List.set_cons_succ, cmpB, ordB, C.d, binD, negD, SR.then_ret, SR.res, Option.map_some, bltD, mthD, Q, ix0, ix1, mul_ok _ h1.1, mul_ok _ h2.1, mul_ok _ (dn h1), if_true, addD]
  unfold Q at q
  simp only [q, Res.sr_ok, SR.then_ret]
theorem L_minus (h1 : Bd a 30000) (h2 : Bd b 30000) : T (k + 3) 5 [Q a, Q b] S = .ok (Q (a - b)) S := by
  rw [T_at (f := f5) rfl rfl]
  have q := L_quot k S (a.num * b.den - b.num * a.den) (a.den * b.den) (den_ne a b) (prod_small (dn h1) (dn h2))
  rw [sub_div] at q
  generalize T (k + 2) = U at q ⊢
  simp -implicitDefEqProofs only [f5, startD, evS, evE, evA, evT, evG, evO, evI, evC, bindP, Res.bind_ok, List.length_cons, List.length_nil, List.map_cons, List.map_nil, List.cons_append, List.nil_append, List.getElem?_cons_zero, List.getElem?_cons_succ, Option.join_some, Res.of_some, Res.of_none, Res.sr_ok, SR.then_next, List.replicate, List.set_cons_zero, List.set_cons_succ, cmpB, ordB, C.d, binD, negD, SR.then_ret, SR.res, Option.map_some, bltD, mthD, Q, ix0, ix1, mul_ok _ h1.1, mul_ok _ h2.1, mul_ok _ (dn h1), if_true]
  unfold Q at q
  simp only [q, Res.sr_ok, SR.then_ret]
theorem L_times (h1 : Bd a 30000) (h2 : Bd b 30000) : T (k + 3) 6 [Q a, Q b] S = .ok (Q (a * b)) S := by
  rw [T_at (f := f6) rfl rfl]
  have q := L_quot k S (a.num * b.num) (a.den * b.den) (den_ne a b) (prod_small (dn h1) (dn h2))
  rw [mul_div] at q
  generalize T (k + 2) = U at q ⊢
  simp -implicitDefEqProofs only [f6, startD, evS, evE, evA, evT, evG, evO, evI, evC, bindP, Res.bind_ok, List.length_cons, List.length_nil, List.map_cons, List.map_nil, List.cons_append, List.nil_append, List.getElem?_cons_zero, List.getElem?_cons_succ, Option.join_some, Res.of_some, Res.of_none, Res.sr_ok, SR.then_next, List.replicate, List.set_cons_zero, List.set_cons_succ, cmpB, ordB, C.d, binD, negD, SR.then_ret, SR.res, Option.map_some, bltD, mthD, Q, ix0, ix1, mul_ok _ h1.1, mul_ok _ h2.1, mul_ok _ (dn h1), if_true]
  unfold Q at q
  simp only [q, Res.sr_ok, SR.then_ret]
theorem L_less (h1 : Bd a 30000) (h2 : Bd b 30000) : T (k + 1) 7 [Q a, Q b] S = .ok (.bl (decide (a < b))) S := by
  rw [T_at (f := f7) rfl rfl]
  simp -implicitDefEqProofs only [f7, startD, evS, evE, evA, evT, evG, evO, evI, evC, bindP, Res.bind_ok, List.length_cons, List.length_nil, List.map_cons, List.map_nil, List.cons_append, List.nil_append, List.getElem?_cons_zero, List.getElem?_cons_succ, Option.join_some, Res.of_some, Res.of_none, Res.sr_ok, SR.then_next, List.replicate, List.set_cons_zero, List.set_cons_succ, cmpB, ordB, C.d, binD, negD, SR.then_ret, SR.res, Option.map_some, bltD, mthD, Q, ix0, ix1, mul_ok _ h1.1, mul_ok _ h2.1, mul_ok _ (dn h1), if_true]
  rw [show decide (a < b) = decide (a.num * b.den < b.num * a.den) from decide_eq_decide.mpr (Rat.lt_iff a b)]
end
end K75

set_option Elab.async false
set_option linter.all false
set_option maxRecDepth 100000
set_option maxHeartbeats 1000000
namespace K75
open PySem Rv
section
variable (S : Sto)
theorem isi_of {x : D} {t n : String} {b : Bool} (h1 : tyD S x = some t) (h2 : isiB t n = some b) : isiD [x, .ty n] S = .ok (.bl b) S := by
  show Res.of ((tyD S x).bind fun t => (isiB t n).map D.bl) S = _
  rw [h1]
  show Res.of ((isiB t n).map D.bl) S = _
  rw [h2]
  exact Eq.trans rfl rfl
theorem isi_ii (x : Int) : isiD [.int x, .ty "int"] S = .ok (.bl true) S := isi_of S (Eq.trans rfl rfl) (by decide +kernel)
theorem isi_ib (x : Int) : isiD [.int x, .ty "bool"] S = .ok (.bl false) S := isi_of S (Eq.trans rfl rfl) (by decide +kernel)
theorem isi_it (x : Int) : isiD [.int x, .ty "tuple"] S = .ok (.bl false) S := isi_of S (Eq.trans rfl rfl) (by decide +kernel)
theorem isi_bt (x : Bool) : isiD [.bl x, .ty "tuple"] S = .ok (.bl false) S := isi_of S (Eq.trans rfl rfl) (by decide +kernel)
theorem isi_bb (x : Bool) : isiD [.bl x, .ty "bool"] S = .ok (.bl true) S := isi_of S (Eq.trans rfl rfl) (by decide +kernel)
theorem isi_tt (xs : List D) : isiD [.tup xs, .ty "tuple"] S = .ok (.bl true) S := isi_of S (Eq.trans rfl rfl) (by decide +kernel)
theorem tr_b (b : Bool) : truB S (.bl b) = some b := Eq.trans rfl rfl
theorem eq_int (x y : Int) : eqD S (.int x) (.int y) = some (decide (x = y)) := by
  simp only [eqD, toP, toP0, PyData.depth, PyData.eqv, Option.bind_some, Nat.min_self, Nat.zero_le, if_true, Option.some.injEq]
  exact Bool.eq_iff_iff.mpr (by simp)
theorem eq_pair (x y u v : Int) : eqD S (.tup [.int x, .int y]) (.tup [.int u, .int v]) = some (decide (x = u) && decide (y = v)) := by
  have e : ∀ a b : Int, (a == b) = decide (a = b) := fun a b => Bool.eq_iff_iff.mpr (by simp)
  simp [eqD, toP, toP0, toPs, PyData.depth, PyData.depthAll, PyData.eqv, PyData.eqvAll, e]
theorem eq_str (x y : Str) : eqD S (.str x) (.str y) = some (decide (x = y)) := by
  simp only [eqD, toP, toP0, PyData.depth, PyData.eqv, Option.bind_some, Nat.min_self, Nat.zero_le, if_true, Option.some.injEq]
  exact Bool.eq_iff_iff.mpr (by simp)
theorem eq_bl (x y : Bool) : eqD S (.bl x) (.bl y) = some (decide (x = y)) := by
  simp only [eqD, toP, toP0, PyData.depth, PyData.eqv, Option.bind_some, Nat.min_self, Nat.zero_le, if_true, Option.some.injEq]
  exact Bool.eq_iff_iff.mpr (by simp)
theorem len2 (x y : D) : lenD [.tup [x, y]] S = .ok (.int 2) S := Eq.trans rfl rfl
end
theorem L_whole (k : Nat) (S : Sto) (x : Int) : T (k + 1) 0 [.int x] S = .ok (.bl true) S := by
  rw [T_at (f := f0) rfl rfl]
  generalize T k = U
  simp -implicitDefEqProofs only [f0, startD, evS, evE, evA, evT, evG, evO, evI, evC, bindP, Res.bind_ok, List.length_cons, List.length_nil, List.map_cons, List.map_nil, List.cons_append, List.nil_append, List.getElem?_cons_zero, List.getElem?_cons_succ, Option.join_some, Res.of_some, Res.of_none, Res.sr_ok, SR.then_next, List.replicate, List.set_cons_zero, List.set_cons_succ, cmpB, ordB, C.d, binD, negD, SR.then_ret, SR.res, Option.map_some, bltD, mthD, isi_ii, isi_ib, tr_b, Bool.not_true, Bool.not_false, if_true]
theorem L_isq (k : Nat) (S : Sto) (x y : Int) (hy : 0 < y) (hs : y.natAbs < 1000000000) : T (k + 3) 3 [.tup [.int x, .int y]] S = .ok (.bl (decide ((Rat.divInt x y).num = x) && decide (((Rat.divInt x y).den : Int) = y))) S := by
  rw [T_at (f := f3) rfl rfl]
  have q := L_quot k S x y (by omega) hs
  have w := L_whole (k + 1) S
  unfold Q at q
  generalize T (k + 2) = U at q w ⊢
  simp -implicitDefEqProofs only [f3, startD, evS, evE, evA, evT, evG, evO, evI, evC, bindP, Res.bind_ok, List.length_cons, List.length_nil, List.map_cons, List.map_nil, List.cons_append, List.nil_append, List.getElem?_cons_zero, List.getElem?_cons_succ, Option.join_some, Res.of_some, Res.of_none, Res.sr_ok, SR.then_next, List.replicate, List.set_cons_zero, List.set_cons_succ, cmpB, ordB, C.d, binD, negD, SR.then_ret, SR.res, Option.map_some, bltD, mthD, isi_tt, tr_b, Bool.not_true, Bool.not_false, len2, eq_int, decide_true, Bool.false_eq_true, if_false, allL, Gd.ok, if_true, wipeD, w, Res.hard, ix0, ix1, decide_eq_true hy, q, eq_pair]
theorem isq_Q (r : Rat) : (decide ((Rat.divInt r.num r.den).num = r.num) && decide (((Rat.divInt r.num r.den).den : Int) = r.den)) = true := by
  rw [Rat.num_divInt_den]
  simp
theorem den_pos (r : Rat) : (0 : Int) < r.den := by have := r.den_nz; omega
theorem L_isqQ (k : Nat) (S : Sto) (r : Rat) (h : Bd r 30000) : T (k + 3) 3 [Q r] S = .ok (.bl true) S := by
  unfold Q
  rw [L_isq k S r.num r.den (den_pos r) (by rw [nb]; exact Nat.lt_of_le_of_lt h.2 (by decide)), isq_Q]
theorem L_isqN (k : Nat) (S : Sto) (r : Rat) (b : Int) (hb : 1 < b) (hb2 : b < 20) (h : Bd r 30000) : T (k + 3) 3 [.tup [.int (r.num * b), .int (r.den * b)]] S = .ok (.bl false) S := by
  have p := den_pos r
  have e : Rat.divInt (r.num * b) (r.den * b) = r := by rw [Rat.divInt_mul_right (by omega), Rat.num_divInt_den]
  rw [L_isq k S (r.num * b) (r.den * b) (Int.mul_pos p (by omega)) (prod_small (dn h) (by omega)), e]
  have n : ¬ ((r.den : Int) = r.den * b) := fun z => by
    have := Int.mul_lt_mul_of_pos_left hb p
    rw [Int.mul_one] at this
    omega
  rw [decide_eq_false n, Bool.and_false]
theorem L_same_i (k : Nat) (S : Sto) (x y : Int) : T (k + 1) 16 [.int x, .int y] S = .ok (.bl (decide (x = y))) S := by
  rw [T_at (f := f16) rfl rfl]
  generalize T k = U
  have e : isB (.int y) .non = some false := Eq.trans rfl rfl
  simp -implicitDefEqProofs only [f16, startD, evS, evE, evA, evT, evG, evO, evI, evC, bindP, Res.bind_ok, List.length_cons, List.length_nil, List.map_cons, List.map_nil, List.cons_append, List.nil_append, List.getElem?_cons_zero, List.getElem?_cons_succ, Option.join_some, Res.of_some, Res.of_none, Res.sr_ok, SR.then_next, List.replicate, List.set_cons_zero, List.set_cons_succ, cmpB, ordB, C.d, binD, negD, SR.then_ret, SR.res, Option.map_some, bltD, mthD, isi_it, tr_b, Bool.not_true, Bool.not_false, Bool.false_eq_true, if_false, e, isi_ib, isi_ii, if_true, eq_int]
theorem L_same_b (k : Nat) (S : Sto) (x y : Bool) : T (k + 1) 16 [.bl x, .bl y] S = .ok (.bl (decide (x = y))) S := by
  rw [T_at (f := f16) rfl rfl]
  generalize T k = U
  have e : isB (.bl y) .non = some false := Eq.trans rfl rfl
  simp -implicitDefEqProofs only [f16, startD, evS, evE, evA, evT, evG, evO, evI, evC, bindP, Res.bind_ok, List.length_cons, List.length_nil, List.map_cons, List.map_nil, List.cons_append, List.nil_append, List.getElem?_cons_zero, List.getElem?_cons_succ, Option.join_some, Res.of_some, Res.of_none, Res.sr_ok, SR.then_next, List.replicate, List.set_cons_zero, List.set_cons_succ, cmpB, ordB, C.d, binD, negD, SR.then_ret, SR.res, Option.map_some, bltD, mthD, isi_bt, tr_b, Bool.not_true, Bool.not_false, Bool.false_eq_true, if_false, e, isi_bb, if_true, eq_bl]
theorem L_same_Q (k : Nat) (S : Sto) (r : Rat) : T (k + 2) 16 [Q r, Q r] S = .ok (.bl true) S := by
  rw [T_at (f := f16) rfl rfl]
  have w := L_same_i k S
  unfold Q
  generalize T (k + 1) = U at w ⊢
  have rg : (List.range (2 : Int).toNat).map (fun (j : Nat) => D.int j) = [.int 0, .int 1] := by decide
  have hc : (-1000000 : Int) ≤ 2 ∧ (2 : Int) ≤ 1000000 := by decide
  simp -implicitDefEqProofs only [f16, startD, evS, evE, evA, evT, evG, evO, evI, evC, bindP, Res.bind_ok, List.length_cons, List.length_nil, List.map_cons, List.map_nil, List.cons_append, List.nil_append, List.getElem?_cons_zero, List.getElem?_cons_succ, Option.join_some, Res.of_some, Res.of_none, Res.sr_ok, SR.then_next, List.replicate, List.set_cons_zero, List.set_cons_succ, cmpB, ordB, C.d, binD, negD, SR.then_ret, SR.res, Option.map_some, bltD, mthD, isi_tt, tr_b, Bool.not_true, Bool.not_false, Bool.false_eq_true, if_false, if_true, len2, eq_int, decide_true, if_pos hc, rg, forL, Gd.ok, ix0, ix1, w, SR.turn_next]
end K75

set_option Elab.async false
set_option linter.all false
set_option maxRecDepth 100000
set_option maxHeartbeats 1000000
namespace K75
open PySem Rv
/-- a number's text -/
def sI (i : Int) : Str := Str.ofString (toString i)
theorem num_tl (n : Nat) : (sI n).cps.toList = TL.numL n := TL.tl_num n
theorem num_len {n : Nat} (h : n ≤ 30000) : (sI n).length ≤ 5 := by
  show (sI n).cps.size ≤ 5
  rw [← Array.length_toList, num_tl]
  exact TL.numL_len (by decide) (by omega)
theorem sI_len {i : Int} (h : i.natAbs ≤ 30000) : (sI i).length ≤ 6 := by
  cases i with
  | ofNat n => exact Nat.le_trans (num_len (n := n) (show n ≤ 30000 from h)) (by decide)
  | negSucc n =>
    have e : toString (Int.negSucc n) = "-" ++ toString (n + 1) := rfl
    have e2 : (sI ((n + 1 : Nat) : Int)).length ≤ 5 := num_len (by omega)
    have h3 : ∀ s : String, (Str.ofString s).length = s.toList.length := fun s => by
      rw [TL.len_tl, TL.tl_ofString, List.length_map]
    have e4 : (sI ((n + 1 : Nat) : Int)).length = (toString (n + 1)).toList.length := h3 _
    unfold sI
    rw [h3, e, String.toList_append, List.length_append, ← e4]
    have : ("-" : String).toList.length = 1 := by decide
    omega
theorem str_ok (S : Sto) {i : Int} (h : i.natAbs ≤ 30000) : strD [.int i] S = .ok (.str (sI i)) S := by
  have hl : i.natAbs.log2 < 1920 := by
    by_cases h0 : i.natAbs = 0
    · rw [h0]; decide
    · have e : i.natAbs.log2 < 15 := (Nat.log2_lt h0).mpr (by omega)
      omega
  show (if i.natAbs.log2 < 1920 then _ else _) = _
  rw [if_pos hl]
  rfl
def txt (r : Rat) : Str := if r.den = 1 then sI r.num else sI r.num ++ "/" ++ sI r.den
theorem add_str (S : Sto) {a b : Str} (h : a.length + b.length ≤ sizeLine) : addD (.str a) (.str b) S = .ok (.str (a ++ b)) S := if_pos h
theorem slash : (Str.ofString "/").length = 1 := by decide
theorem app_len (a b : Str) : (a ++ b).length = a.length + b.length := by rw [TL.len_tl, TL.len_tl, TL.len_tl, TL.tl_append, List.length_append]
theorem small_line : (100 : Nat) ≤ sizeLine := by decide
theorem L_write (k : Nat) (S : Sto) (r : Rat) (h : Bd r 30000) : T (k + 1) 8 [Q r] S = .ok (.str (txt r)) S := by
  rw [T_at (f := f8) rfl rfl]
  generalize T k = U
  have l1 := sI_len h.1
  have l2 := sI_len (dn h)
  have sl := small_line
  have s1 := add_str S (a := sI r.num) (b := "/") (by rw [slash]; omega)
  have s2 := add_str S (a := sI r.num ++ "/") (b := sI r.den) (by rw [app_len, slash]; omega)
  unfold Q txt
  by_cases hd : r.den = 1
  · have e : decide ((r.den : Int) = 1) = true := decide_eq_true (by omega)
    rw [if_pos hd]
    simp -implicitDefEqProofs only [f8, startD, evS, evE, evA, evT, evG, evO, evI, evC, bindP, Res.bind_ok, List.length_cons, List.length_nil, List.map_cons, List.map_nil, List.cons_append, List.nil_append, List.getElem?_cons_zero, List.getElem?_cons_succ, Option.join_some, Res.of_some, Res.of_none, Res.sr_ok, SR.then_next, List.replicate, List.set_cons_zero, List.set_cons_succ, cmpB, ordB, C.d, binD, negD, SR.then_ret, SR.res, Option.map_some, bltD, mthD, ix0, ix1, eq_int, e, if_true, str_ok S h.1]
  · have e : decide ((r.den : Int) = 1) = false := decide_eq_false (by omega)
    rw [if_neg hd]
    simp -implicitDefEqProofs only [f8, startD, evS, evE, evA, evT, evG, evO, evI, evC, bindP, Res.bind_ok, List.length_cons, List.length_nil, List.map_cons, List.map_nil, List.cons_append, List.nil_append, List.getElem?_cons_zero, List.getElem?_cons_succ, Option.join_some, Res.of_some, Res.of_none, Res.sr_ok, SR.then_next, List.replicate, List.set_cons_zero, List.set_cons_succ, cmpB, ordB, C.d, binD, negD, SR.then_ret, SR.res, Option.map_some, bltD, mthD, ix0, ix1, eq_int, e, Bool.false_eq_true, if_false, str_ok S h.1, str_ok S (dn h), s1, s2]
theorem L_ltext (k : Nat) (S : Sto) (r : Rat) (h : Bd r 30000) : T (k + 1) 17 [Q r] S = .ok (.str (txt r)) S := by
  rw [T_at (f := f17) rfl rfl]
  generalize T k = U
  have l1 := sI_len h.1
  have l2 := sI_len (dn h)
  have sl := small_line
  have s1 := add_str S (a := sI r.num) (b := "/") (by rw [slash]; omega)
  have s2 := add_str S (a := sI r.num ++ "/") (b := sI r.den) (by rw [app_len, slash]; omega)
  unfold Q txt
  by_cases hd : r.den = 1
  · have e : decide ((r.den : Int) = 1) = true := decide_eq_true (by omega)
    rw [if_pos hd]
    simp -implicitDefEqProofs only [f17, startD, evS, evE, evA, evT, evG, evO, evI, evC, bindP, Res.bind_ok, List.length_cons, List.length_nil, List.map_cons, List.map_nil, List.cons_append, List.nil_append, List.getElem?_cons_zero, List.getElem?_cons_succ, Option.join_some, Res.of_some, Res.of_none, Res.sr_ok, SR.then_next, List.replicate, List.set_cons_zero, List.set_cons_succ, cmpB, ordB, C.d, binD, negD, SR.then_ret, SR.res, Option.map_some, bltD, mthD, ix0, ix1, eq_int, e, if_true, str_ok S h.1]
  · have e : decide ((r.den : Int) = 1) = false := decide_eq_false (by omega)
    rw [if_neg hd]
    simp -implicitDefEqProofs only [f17, startD, evS, evE, evA, evT, evG, evO, evI, evC, bindP, Res.bind_ok, List.length_cons, List.length_nil, List.map_cons, List.map_nil, List.cons_append, List.nil_append, List.getElem?_cons_zero, List.getElem?_cons_succ, Option.join_some, Res.of_some, Res.of_none, Res.sr_ok, SR.then_next, List.replicate, List.set_cons_zero, List.set_cons_succ, cmpB, ordB, C.d, binD, negD, SR.then_ret, SR.res, Option.map_some, bltD, mthD, ix0, ix1, eq_int, e, Bool.false_eq_true, if_false, str_ok S h.1, str_ok S (dn h), s1, s2]
theorem all_true {step : D → Sto → Res Bool} : ∀ {xs : List D} {S : Sto}, (∀ x ∈ xs, step x S = .ok true S) → allL none step xs S = .ok true S
  | [], S, _ => by unfold allL; exact if_pos rfl
  | x :: xs, S, h => by
    unfold allL
    show (if true = true then (step x S).bind _ else _) = _
    rw [if_pos rfl, h x (by simp), Res.bind_ok, if_pos rfl]
    exact all_true fun y hy => h y (by simp [hy])
theorem digit_in : ∀ c < 58, 48 ≤ c → inStr ⟨#[c]⟩ "0123456789" = true := by decide +kernel
theorem cut_none (z : Str) (c : Nat) (cs : List Nat) (h : z.cps.toList = c :: cs) : L2.cutS z none (some 1) = ⟨#[c]⟩ := by
  have hl : z.length = cs.length + 1 := by
    show z.cps.size = _
    rw [← Array.length_toList, h]; rfl
  unfold L2.cutS
  rw [h, hl]
  show (⟨(List.take (min 1 (cs.length + 1) - 0) (List.drop 0 (c :: cs))).toArray⟩ : Str) = _
  rw [Nat.min_eq_left (by omega)]
  rfl
theorem L_num (k : Nat) (S : Sto) (n : Nat) (h : n ≤ 30000) : T (k + 1) 10 [.str (sI n)] S = .ok (.bl true) S := by
  rw [T_at (f := f10) rfl rfl]
  generalize T k = U
  obtain ⟨c, cs, e1⟩ : ∃ c cs, TL.numL n = c :: cs := by
    cases q : TL.numL n with
    | nil => exact absurd q (TL.numL_ne n)
    | cons c cs => exact ⟨c, cs, rfl⟩
  have e2 : (sI n).cps.toList = c :: cs := by rw [num_tl, e1]
  have hc : 48 ≤ c ∧ c ≤ 57 := TL.numL_digits n c (by rw [e1]; simp)
  have e3 := cut_none (sI n) c cs e2
  have e4 : decide ((⟨#[c]⟩ : Str) = Str.ofString "-") = false := decide_eq_false fun z => by
    have : (⟨#[c]⟩ : Str).cps.toList = (Str.ofString "-").cps.toList := by rw [z]
    have e5 : (Str.ofString "-").cps.toList = [45] := by decide
    rw [e5] at this
    have : c = 45 := by simpa using this
    omega
  have l5 := num_len h
  have l1 : 1 ≤ (sI n).length := by
    show 1 ≤ (sI n).cps.size
    rw [← Array.length_toList, e2]
    simp
  have sl := small_line
  have hz : (sI n).length ≤ sizeLine := by omega
  have c1 : decide ((1 : Int) ≤ ((sI n).length : Int)) = true := decide_eq_true (by omega)
  have c2 : decide (((sI n).length : Int) ≤ 12) = true := decide_eq_true (by omega)
  simp -implicitDefEqProofs only [f10, startD, evS, evE, evA, evT, evG, evO, evI, evC, bindP, Res.bind_ok, List.length_cons, List.length_nil, List.map_cons, List.map_nil, List.cons_append, List.nil_append, List.getElem?_cons_zero, List.getElem?_cons_succ, Option.join_some, Res.of_some, Res.of_none, Res.sr_ok, SR.then_next, List.replicate, List.set_cons_zero, List.set_cons_succ, cmpB, ordB, C.d, binD, negD, SR.then_ret, SR.res, Option.map_some, bltD, mthD, slcD, if_pos hz, e3, eq_str, e4, Bool.false_eq_true, if_false, lenD, c1, c2, if_true, tr_b, wipeD]
  rw [all_true]
  · exact Eq.trans rfl rfl
  · intro x hx
    unfold signsD at hx
    obtain ⟨d, hd, rfl⟩ := List.mem_map.mp hx
    have hd2 : 48 ≤ d ∧ d ≤ 57 := TL.numL_digits n d (by rw [← num_tl]; exact hd)
    have q := digit_in d (by omega) hd2.1
    simp -implicitDefEqProofs only [startD, evS, evE, evA, evT, evG, evO, evI, evC, bindP, Res.bind_ok, List.length_cons, List.length_nil, List.map_cons, List.map_nil, List.cons_append, List.nil_append, List.getElem?_cons_zero, List.getElem?_cons_succ, Option.join_some, Res.of_some, Res.of_none, Res.sr_ok, SR.then_next, List.replicate, List.set_cons_zero, List.set_cons_succ, cmpB, ordB, C.d, binD, negD, SR.then_ret, SR.res, Option.map_some, bltD, mthD, inB, q, Res.hard]
end K75

set_option Elab.async false
set_option linter.all false
set_option maxRecDepth 100000
set_option maxHeartbeats 1000000
namespace K75
open PySem Rv
theorem int_ok (S : Sto) {n : Nat} (h : n ≤ 30000) : intD [.str (sI n)] S = .ok (.int n) S := by
  have l := num_len h
  show (if (sI n).length ≤ 640 then Res.of ((PySem.intText? (sI n)).map D.int) S else .bad) = _
  rw [if_pos (by omega)]
  have e : PySem.intText? (sI n) = some (n : Int) := TL.int_num (by have := TL.numL_len (n := n) (k := 5) (by decide) (by omega); omega)
  rw [e]
  exact Eq.trans rfl rfl
theorem part_ok (S : Sto) {a p q r : Str} (h : Txt.partition a "/" = (p, q, r)) (hl : a.length ≤ sizeLine) : partitionD (.str a) [.str "/"] S = .ok (.tup [.str p, .str q, .str r]) S := by
  show (if ((Str.ofString "/").length == 0) = false ∧ a.length ≤ sizeLine then Res.ok (D.tup [.str (Txt.partition a "/").1, .str (Txt.partition a "/").2.1, .str (Txt.partition a "/").2.2]) S else .bad) = _
  rw [if_pos ⟨by decide, hl⟩, h]
theorem no_slash (n : Nat) : 47 ∉ TL.tl (sI n) := by
  have e : TL.tl (sI n) = TL.numL n := num_tl n
  rw [e]
  exact TL.numL_free (.inl (by decide))
theorem slash_tl : TL.tl (Str.ofString "/") = 47 :: [] := by decide
theorem L_read (k : Nat) (S : Sto) (r : Rat) (h : Bd r 30000) (h0 : 0 ≤ r.num) : T (k + 4) 9 [.str (txt r)] S = .ok (Q r) S := by
  rw [T_at (f := f9) rfl rfl]
  obtain ⟨n, hn⟩ : ∃ n : Nat, r.num = n := ⟨r.num.toNat, by omega⟩
  have hn2 : n ≤ 30000 := by have := h.1; omega
  have w1 := fun S => L_num (k + 2) S n hn2
  have w2 := fun S => L_num (k + 2) S r.den h.2
  have w3 := fun S => L_isqQ k S r h
  have w4 := fun S => L_write (k + 2) S r h
  have m : ∀ a : Str, mtB .partition (.str a) S = true := fun a => Eq.trans rfl rfl
  have l1 := num_len hn2
  have l2 := num_len h.2
  have sl := small_line
  have i1 := int_ok S hn2
  have i2 := int_ok S h.2
  have s0 : decide (Str.empty = Str.ofString "/") = false := by decide
  have s1 : decide (Str.ofString "/" = Str.ofString "/") = true := by decide
  generalize T (k + 3) = U at w1 w2 w3 w4 ⊢
  have two : 0 + 1 + 1 ≤ sizeLine := two_line
  by_cases hd : r.den = 1
  · have et : txt r = sI n := by unfold txt; rw [if_pos hd, hn]
    have eq : Q r = .tup [.int n, .int 1] := by unfold Q; rw [hn, hd]; rfl
    rw [et] at w4 ⊢
    rw [eq] at w3 w4 ⊢
    have p := part_ok S (TL.partition_none slash_tl (no_slash n)) (show (sI n).length ≤ sizeLine by omega)
    simp -implicitDefEqProofs only [f9, startD, evS, evE, evA, evT, evG, evO, evI, evC, bindP, Res.bind_ok, List.length_cons, List.length_nil, List.map_cons, List.map_nil, List.cons_append, List.nil_append, List.getElem?_cons_zero, List.getElem?_cons_succ, Option.join_some, Res.of_some, Res.of_none, Res.sr_ok, SR.then_next, List.replicate, List.set_cons_zero, List.set_cons_succ, cmpB, ordB, C.d, binD, negD, SR.then_ret, SR.res, Option.map_some, bltD, mthD, if_pos (m _), p, Option.bind_some, w1, Bool.not_true, Bool.false_eq_true, if_false, eq_str, s0, i1, if_pos two, w3, tr_b, if_true, w4, decide_true]
  · have et : txt r = sI n ++ "/" ++ sI r.den := by unfold txt; rw [if_neg hd, hn]
    have eq : Q r = .tup [.int n, .int r.den] := by unfold Q; rw [hn]
    rw [et] at w4 ⊢
    rw [eq] at w3 w4 ⊢
    have p := part_ok S (TL.partition_app slash_tl (a := sI n) (b := sI r.den) (no_slash n)) (by rw [app_len, app_len, slash]; omega)
    simp -implicitDefEqProofs only [f9, startD, evS, evE, evA, evT, evG, evO, evI, evC, bindP, Res.bind_ok, List.length_cons, List.length_nil, List.map_cons, List.map_nil, List.cons_append, List.nil_append, List.getElem?_cons_zero, List.getElem?_cons_succ, Option.join_some, Res.of_some, Res.of_none, Res.sr_ok, SR.then_next, List.replicate, List.set_cons_zero, List.set_cons_succ, cmpB, ordB, C.d, binD, negD, SR.then_ret, SR.res, Option.map_some, bltD, mthD, if_pos (m _), p, Option.bind_some, w1, w2, Bool.not_true, Bool.false_eq_true, if_false, eq_str, s1, i1, i2, if_pos two, w3, tr_b, if_true, w4, decide_true]
def badTexts : List Str := ["", "1/", "/2", "2/4", "1/1", "0/1", "01", "1/02", "1/0", " 1", "1 ", "1/2/3", "x", "+1", "1.5", "1234567890123", "1/1234567890123"]
theorem R0 (k : Nat) (S : Sto) : T (k + 4) 9 [.str ""] S = .ok .non S := by kernel_rfl
theorem R1 (k : Nat) (S : Sto) : T (k + 4) 9 [.str "1/"] S = .ok .non S := by kernel_rfl
theorem R2 (k : Nat) (S : Sto) : T (k + 4) 9 [.str "/2"] S = .ok .non S := by kernel_rfl
theorem R3 (k : Nat) (S : Sto) : T (k + 4) 9 [.str "2/4"] S = .ok .non S := by kernel_rfl
theorem R4 (k : Nat) (S : Sto) : T (k + 4) 9 [.str "1/1"] S = .ok .non S := by kernel_rfl
theorem R5 (k : Nat) (S : Sto) : T (k + 4) 9 [.str "0/1"] S = .ok .non S := by kernel_rfl
theorem R6 (k : Nat) (S : Sto) : T (k + 4) 9 [.str "01"] S = .ok .non S := by kernel_rfl
theorem R7 (k : Nat) (S : Sto) : T (k + 4) 9 [.str "1/02"] S = .ok .non S := by kernel_rfl
theorem R8 (k : Nat) (S : Sto) : T (k + 4) 9 [.str "1/0"] S = .ok .non S := by kernel_rfl
theorem R9 (k : Nat) (S : Sto) : T (k + 4) 9 [.str " 1"] S = .ok .non S := by kernel_rfl
theorem R10 (k : Nat) (S : Sto) : T (k + 4) 9 [.str "1 "] S = .ok .non S := by kernel_rfl
theorem R11 (k : Nat) (S : Sto) : T (k + 4) 9 [.str "1/2/3"] S = .ok .non S := by kernel_rfl
theorem R12 (k : Nat) (S : Sto) : T (k + 4) 9 [.str "x"] S = .ok .non S := by kernel_rfl
theorem R13 (k : Nat) (S : Sto) : T (k + 4) 9 [.str "+1"] S = .ok .non S := by kernel_rfl
theorem R14 (k : Nat) (S : Sto) : T (k + 4) 9 [.str "1.5"] S = .ok .non S := by kernel_rfl
theorem R15 (k : Nat) (S : Sto) : T (k + 4) 9 [.str "1234567890123"] S = .ok .non S := by kernel_rfl
theorem R16 (k : Nat) (S : Sto) : T (k + 4) 9 [.str "1/1234567890123"] S = .ok .non S := by kernel_rfl
theorem L_bad (k : Nat) (S : Sto) : ∀ z ∈ badTexts, T (k + 4) 9 [.str z] S = .ok .non S := List.forall_mem_cons.mpr ⟨R0 k S, List.forall_mem_cons.mpr ⟨R1 k S, List.forall_mem_cons.mpr ⟨R2 k S, List.forall_mem_cons.mpr ⟨R3 k S, List.forall_mem_cons.mpr ⟨R4 k S, List.forall_mem_cons.mpr ⟨R5 k S, List.forall_mem_cons.mpr ⟨R6 k S, List.forall_mem_cons.mpr ⟨R7 k S, List.forall_mem_cons.mpr ⟨R8 k S, List.forall_mem_cons.mpr ⟨R9 k S, List.forall_mem_cons.mpr ⟨R10 k S, List.forall_mem_cons.mpr ⟨R11 k S, List.forall_mem_cons.mpr ⟨R12 k S, List.forall_mem_cons.mpr ⟨R13 k S, List.forall_mem_cons.mpr ⟨R14 k S, List.forall_mem_cons.mpr ⟨R15 k S, List.forall_mem_cons.mpr ⟨R16 k S, (by simp)⟩⟩⟩⟩⟩⟩⟩⟩⟩⟩⟩⟩⟩⟩⟩⟩⟩
end K75

set_option Elab.async false
set_option linter.all false
set_option maxRecDepth 100000
set_option maxHeartbeats 1000000
namespace Rv
theorem forL_inv {g : Gd} {step : D → Env → Sto → SR} (I : Nat → Env → Sto → Prop) (hg : ∀ j ρ S, I j ρ S → g.ok S = true) : ∀ (xs : List D) (i : Nat) (ρ : Env) (S : Sto), (∀ x ∈ xs, ∀ j ρ S, I j ρ S → ∃ ρ' S', step x ρ S = .next ρ' S' ∧ I (j + 1) ρ' S') → I i ρ S →
    ∃ ρ' S', forL g step xs ρ S = .next ρ' S' ∧ I (i + xs.length) ρ' S'
  | [], i, ρ, S, _, h => ⟨ρ, S, by unfold forL; exact if_pos (hg _ _ _ h), h⟩
  | x :: xs, i, ρ, S, hs, h => by
    obtain ⟨ρ1, S1, e1, h1⟩ := hs x (by simp) i ρ S h
    obtain ⟨ρ2, S2, e2, h2⟩ := forL_inv I hg xs (i + 1) ρ1 S1 (fun y hy => hs y (by simp [hy])) h1
    refine ⟨ρ2, S2, ?_, by rw [List.length_cons]; have : i + 1 + xs.length = i + (xs.length + 1) := by omega
                           rw [← this]; exact h2⟩
    unfold forL
    rw [if_pos (hg _ _ _ h), e1]
    exact e2
end Rv
namespace K75
open PySem Rv
theorem it_ref {S : Sto} {n : Nat} {xs : List D} (h : S[n]? = some (.lst xs)) : items S (.ref n) = some xs := by
  show (match S[n]? with | some (.lst xs) => some xs | _ => none) = _
  rw [h]
theorem idx_ref {S : Sto} {n : Nat} {xs : List D} {i : Int} {d : D} (h : S[n]? = some (.lst xs)) (hi : L2.atI xs i = some d) : idxD S (.ref n) (.int i) = some d := by
  show ((items S (.ref n)).bind fun xs => L2.atI xs i) = _
  rw [it_ref h]
  exact hi
theorem len_ref {S : Sto} {n : Nat} {xs : List D} (h : S[n]? = some (.lst xs)) : lenD [.ref n] S = .ok (.int xs.length) S := by
  show Res.of ((items S (.ref n)).map fun ys => D.int ys.length) S = _
  rw [it_ref h]
  exact Eq.trans rfl rfl
theorem lt_of {S : Sto} {n : Nat} {o : O} (h : S[n]? = some o) : n < S.length := (List.getElem?_eq_some_iff.mp h).1
def Bx (b : Nat) (S : Sto) : Prop := ∃ (dg p : Nat) (ds : List Int), S[b]? = some (.lst [.ref dg, .int p]) ∧ S[dg]? = some (.lst (ds.map D.int)) ∧ dg ≠ b
def Ex (b : Nat) (S S' : Sto) : Prop := ∀ n u, n ≠ b → S[n]? = some u → S'[n]? = some u
theorem Ex.refl {b : Nat} {S : Sto} : Ex b S S := fun _ _ _ h => h
theorem Ex.trans {b : Nat} {S S1 S2 : Sto} (h : Ex b S S1) (g : Ex b S1 S2) : Ex b S S2 := fun n u hn e => g n u hn (h n u hn e)
theorem Ex.app {b : Nat} {S : Sto} (xs : Sto) : Ex b S (S ++ xs) := fun n u _ e => by rw [List.getElem?_append_left (lt_of e)]; exact e
theorem Bx.app {b : Nat} {S : Sto} (xs : Sto) (h : Bx b S) : Bx b (S ++ xs) := by
  obtain ⟨dg, p, ds, h1, h2, h3⟩ := h
  exact ⟨dg, p, ds, by rw [List.getElem?_append_left (lt_of h1)]; exact h1, by rw [List.getElem?_append_left (lt_of h2)]; exact h2, h3⟩
theorem Bx.lt {b : Nat} {S : Sto} (h : Bx b S) : b < S.length := by
  obtain ⟨dg, p, ds, h1, h2, h3⟩ := h
  exact lt_of h1
theorem atI_nat {α : Type} {xs : List α} {n : Nat} (h : n < xs.length) : L2.atI xs (n : Int) = some xs[n] := by
  unfold L2.atI L2.ixN
  rw [if_pos (by omega), if_pos (by omega)]
  simp [h]
theorem L_draw (k b : Nat) (S : Sto) (m : Int) (hm : 0 < m) (h : Bx b S) : ∃ (r : Int) (S' : Sto), T (k + 1) 15 [.ref b, .int m] S = .ok (.int r) S' ∧ 0 ≤ r ∧ r < m ∧ Bx b S' ∧ Ex b S S' := by
  obtain ⟨dg, p, ds, h1, h2, h3⟩ := h
  have g1 : (S.set b (.lst [.ref dg, .int (p + 1)]))[b]? = some (.lst [.ref dg, .int (p + 1)]) := List.getElem?_set_self (lt_of h1)
  have g2 : (S.set b (.lst [.ref dg, .int (p + 1)]))[dg]? = some (.lst (ds.map D.int)) := by rw [List.getElem?_set_ne (Ne.symm h3)]; exact h2
  have i1 : idxD S (.ref b) (.int 1) = some (.int p) := idx_ref h1 (Eq.trans rfl rfl)
  have i0 : idxD (S.set b (.lst [.ref dg, .int (p + 1)])) (.ref b) (.int 0) = some (.ref dg) := idx_ref g1 (Eq.trans rfl rfl)
  have st : setD (.ref b) (.int 1) (.int ((p : Int) + 1)) S = .ok () (S.set b (.lst [.ref dg, .int (p + 1)])) := by
    show (match S[b]? with
      | some (.lst xs) => match L2.ixN xs.length 1 with
        | some j => Res.ok () (S.set b (.lst (xs.set j (.int ((p : Int) + 1)))))
        | none => .bad
      | _ => .bad) = _
    rw [h1]
    exact Eq.trans rfl rfl
  have ln := len_ref g2
  rw [List.length_map] at ln
  have key : ∀ r : Int, T (k + 1) 15 [.ref b, .int m] S = .ok (.int r) (S.set b (.lst [.ref dg, .int (p + 1)])) → 0 ≤ r → r < m → ∃ (r : Int) (S' : Sto), T (k + 1) 15 [.ref b, .int m] S = .ok (.int r) S' ∧ 0 ≤ r ∧ r < m ∧ Bx b S' ∧ Ex b S S' := fun r e e1 e2 =>
    ⟨r, _, e, e1, e2, ⟨dg, p + 1, ds, g1, g2, h3⟩, fun n u hn e => by rw [List.getElem?_set_ne (Ne.symm hn)]; exact e⟩
  by_cases hp : p < ds.length
  · have i2 : idxD (S.set b (.lst [.ref dg, .int (p + 1)])) (.ref dg) (.int p) = some (.int ds[p]) := idx_ref g2 (by rw [atI_nat (by simpa using hp)]; simp)
    refine key (ds[p] % m) ?_ (Int.emod_nonneg _ (by omega)) (Int.emod_lt_of_pos _ hm)
    rw [T_at (f := f15) rfl rfl]
    generalize T k = U
    have c : decide ((p : Int) < ds.length) = true := decide_eq_true (by omega)
    have ii : ∀ (i : Int) (S : Sto), intD [.int i] S = .ok (.int i) S := fun i S => Eq.trans rfl rfl
    simp -implicitDefEqProofs only [f15, startD, evS, evE, evA, evT, evG, evO, evI, evC, bindP, Res.bind_ok, List.length_cons, List.length_nil, List.map_cons, List.map_nil, List.cons_append, List.nil_append, List.getElem?_cons_zero, List.getElem?_cons_succ, Option.join_some, Res.of_some, Res.of_none, Res.sr_ok, SR.then_next, List.replicate, List.set_cons_zero, List.set_cons_succ, cmpB, ordB, C.d, binD, negD, SR.then_ret, SR.res, Option.map_some, bltD, mthD, i1, i0, st, ln, c, if_true, i2, ii, if_pos hm, addD]
  · refine key 0 ?_ (Int.le_refl 0) hm
    rw [T_at (f := f15) rfl rfl]
    generalize T k = U
    have c : decide ((p : Int) < ds.length) = false := decide_eq_false (by omega)
    simp -implicitDefEqProofs only [f15, startD, evS, evE, evA, evT, evG, evO, evI, evC, bindP, Res.bind_ok, List.length_cons, List.length_nil, List.map_cons, List.map_nil, List.cons_append, List.nil_append, List.getElem?_cons_zero, List.getElem?_cons_succ, Option.join_some, Res.of_some, Res.of_none, Res.sr_ok, SR.then_next, List.replicate, List.set_cons_zero, List.set_cons_succ, cmpB, ordB, C.d, binD, negD, SR.then_ret, SR.res, Option.map_some, bltD, mthD, i1, i0, st, ln, c, Bool.false_eq_true, if_false, addD]
theorem L_drawn (k b : Nat) (S : Sto) (h : Bx b S) : ∃ (r : Rat) (S' : Sto), T (k + 3) 14 [.ref b] S = .ok (Q r) S' ∧ Bd r 12 ∧ Bx b S' ∧ Ex b S S' := by
  obtain ⟨r1, S1, e1, l1, u1, b1, x1⟩ := L_draw (k + 1) b S 19 (by decide) h
  have b2 : Bx b (S1 ++ [.lst [.int 1, .int 2, .int 3, .int 4, .int 6, .int 12, .int 5]]) := b1.app _
  obtain ⟨r2, S3, e3, l3, u3, b3, x3⟩ := L_draw (k + 1) b _ 7 (by decide) b2
  have hb := b1.lt
  have g : S3[S1.length]? = some (.lst [.int 1, .int 2, .int 3, .int 4, .int 6, .int 12, .int 5]) := x3 _ _ (by omega) (by rw [List.getElem?_append_right (Nat.le_refl _), Nat.sub_self]; rfl)
  obtain ⟨v, hv, hv0, hv1⟩ : ∃ v : Int, L2.atI [D.int 1, .int 2, .int 3, .int 4, .int 6, .int 12, .int 5] r2 = some (.int v) ∧ 0 < v ∧ v ≤ 12 := by
    have : r2 = 0 ∨ r2 = 1 ∨ r2 = 2 ∨ r2 = 3 ∨ r2 = 4 ∨ r2 = 5 ∨ r2 = 6 := by omega
    rcases this with rfl | rfl | rfl | rfl | rfl | rfl | rfl
    · exact ⟨1, rfl, by decide, by decide⟩
    · exact ⟨2, rfl, by decide, by decide⟩
    · exact ⟨3, rfl, by decide, by decide⟩
    · exact ⟨4, rfl, by decide, by decide⟩
    · exact ⟨6, rfl, by decide, by decide⟩
    · exact ⟨12, rfl, by decide, by decide⟩
    · exact ⟨5, rfl, by decide, by decide⟩
  have ix := idx_ref g hv
  have q := L_quot k S3 (r1 - 9) v (by omega) (by omega)
  refine ⟨Rat.divInt (r1 - 9) v, S3, ?_, bd_div (by omega) (by omega) (by omega), b3, (x1.trans (Ex.app _)).trans x3⟩
  rw [T_at (f := f14) rfl rfl]
  generalize T (k + 2) = U at e1 e3 q ⊢
  have seven : 0 + 1 + 1 + 1 + 1 + 1 + 1 + 1 ≤ sizeLine := by decide
  simp -implicitDefEqProofs only [f14, startD, evS, evE, evA, evT, evG, evO, evI, evC, bindP, Res.bind_ok, List.length_cons, List.length_nil, List.map_cons, List.map_nil, List.cons_append, List.nil_append, List.getElem?_cons_zero, List.getElem?_cons_succ, Option.join_some, Res.of_some, Res.of_none, Res.sr_ok, SR.then_next, List.replicate, List.set_cons_zero, List.set_cons_succ, cmpB, ordB, C.d, binD, negD, SR.then_ret, SR.res, Option.map_some, bltD, mthD, e1, if_pos seven, e3, ix, q]
end K75

set_option Elab.async false
set_option linter.all false
set_option maxRecDepth 100000
set_option maxHeartbeats 1000000
namespace Rv
theorem forL_invN {g : Gd} {step : D → Env → Sto → SR} (I : Nat → Env → Sto → Prop) (N : Nat) (hg : ∀ j ρ S, I j ρ S → g.ok S = true) : ∀ (xs : List D) (i : Nat) (ρ : Env) (S : Sto), i + xs.length = N → (∀ x ∈ xs, ∀ j ρ S, j < N → I j ρ S → ∃ ρ' S', step x ρ S = .next ρ' S' ∧ I (j + 1) ρ' S') → I i ρ S →
    ∃ ρ' S', forL g step xs ρ S = .next ρ' S' ∧ I N ρ' S'
  | [], i, ρ, S, hN, _, h => ⟨ρ, S, by unfold forL; exact if_pos (hg _ _ _ h), by rw [← hN]; exact h⟩
  | x :: xs, i, ρ, S, hN, hs, h => by
    rw [List.length_cons] at hN
    obtain ⟨ρ1, S1, e1, h1⟩ := hs x (by simp) i ρ S (by omega) h
    obtain ⟨ρ2, S2, e2, h2⟩ := forL_invN I N hg xs (i + 1) ρ1 S1 (by omega) (fun y hy => hs y (by simp [hy])) h1
    refine ⟨ρ2, S2, ?_, h2⟩
    unfold forL
    rw [if_pos (hg _ _ _ h), e1]
    exact e2
theorem forr_inv {U : Nat → List D → Sto → Res D} {p : P} {it : E} {b : St} {xs : List D} {g : Gd} {ρ : Env} {S S1 : Sto} (I : Nat → Env → Sto → Prop) (hI : evI U it ρ S = .ok (xs, g) S1) (hg : ∀ j ρ S, I j ρ S → g.ok S = true)
    (hs : ∀ x ∈ xs, ∀ j ρ S, j < xs.length → I j ρ S → ∃ ρ' S', ((Res.of (bindP p [x] ρ) S).sr fun ρ' S' => evS U b ρ' S') = .next ρ' S' ∧ I (j + 1) ρ' S') (h : I 0 ρ S1) :
    ∃ ρ' S', evS U (.forr p it b) ρ S = .next ρ' S' ∧ I xs.length ρ' S' := by
  have e : evS U (.forr p it b) ρ S = (evI U it ρ S).sr fun w S1 => forL w.2 (fun x ρ S => (Res.of (bindP p [x] ρ) S).sr fun ρ' S' => evS U b ρ' S') w.1 ρ S1 := by simp -implicitDefEqProofs only [evS]
  rw [e, hI]
  exact forL_invN I xs.length hg xs 0 ρ S1 (by omega) hs h
theorem evS_seq {U : Nat → List D → Sto → Res D} {a b : St} {ρ ρ1 : Env} {S S1 : Sto} (h : evS U a ρ S = .next ρ1 S1) : evS U (.seq a b) ρ S = evS U b ρ1 S1 := by
  have e : evS U (.seq a b) ρ S = (evS U a ρ S).then fun ρ' S' => evS U b ρ' S' := by simp -implicitDefEqProofs only [evS]
  rw [e, h]
  exact Eq.trans rfl rfl
theorem evS_skip {U : Nat → List D → Sto → Res D} {ρ : Env} {S : Sto} : evS U .skip ρ S = .next ρ S := by simp -implicitDefEqProofs only [evS]
end Rv
namespace K75
open PySem Rv
def Scr (ns : List Int) (S : Sto) (c : D) : Prop := lenD [c] S = .ok (.int ns.length) S ∧ ∀ j, idxD S c (.int j) = L2.atI (ns.map D.int) j
theorem len_frl (xs : List D) (S : Sto) : lenD [.frl xs] S = .ok (.int xs.length) S := Eq.trans rfl rfl
theorem idx_frl (xs : List D) (S : Sto) (i : Int) : idxD S (.frl xs) (.int i) = L2.atI xs i := Eq.trans rfl rfl
theorem idx_ref' {S : Sto} {n : Nat} {xs : List D} {i : Int} (h : S[n]? = some (.lst xs)) : idxD S (.ref n) (.int i) = L2.atI xs i := by
  show ((items S (.ref n)).bind fun xs => L2.atI xs i) = _
  rw [it_ref h]
  exact Eq.trans rfl rfl
theorem scr_of {ns : List Int} {S : Sto} {c : D} (h : Script ns S c) (X : Sto) : Scr ns (S ++ X) c := by
  rcases h with ⟨rfl, rfl⟩ | ⟨rfl, rfl⟩
  · refine ⟨?_, fun j => idx_frl _ _ j⟩
    have := len_frl (ns.map D.int) ([] ++ X)
    rw [List.length_map] at this
    exact this
  · have g : (([.lst (ns.map D.int)] : Sto) ++ X)[0]? = some (.lst (ns.map D.int)) := Eq.trans rfl rfl
    refine ⟨?_, fun j => idx_ref' g⟩
    have := len_ref g
    rw [List.length_map] at this
    exact this
theorem L_cell (k : Nat) {ns : List Int} {S : Sto} {c : D} (h : Scr ns S c) (j : Nat) : ∃ x : Int, T (k + 1) 13 [c, .int j] S = .ok (.int x) S := by
  obtain ⟨h1, h2⟩ := h
  by_cases hj : j < ns.length
  · refine ⟨ns[j], ?_⟩
    rw [T_at (f := f13) rfl rfl]
    generalize T k = U
    have e : idxD S c (.int j) = some (.int ns[j]) := by rw [h2, atI_nat (by simpa using hj)]; simp
    have cc : decide ((j : Int) < ns.length) = true := decide_eq_true (by omega)
    simp -implicitDefEqProofs only [f13, startD, evS, evE, evA, evT, evG, evO, evI, evC, bindP, Res.bind_ok, List.length_cons, List.length_nil, List.map_cons, List.map_nil, List.cons_append, List.nil_append, List.getElem?_cons_zero, List.getElem?_cons_succ, Option.join_some, Res.of_some, Res.of_none, Res.sr_ok, SR.then_next, List.replicate, List.set_cons_zero, List.set_cons_succ, cmpB, ordB, C.d, binD, negD, SR.then_ret, SR.res, Option.map_some, bltD, mthD, h1, cc, if_true, e]
  · refine ⟨0, ?_⟩
    rw [T_at (f := f13) rfl rfl]
    generalize T k = U
    have cc : decide ((j : Int) < ns.length) = false := decide_eq_false (by omega)
    simp -implicitDefEqProofs only [f13, startD, evS, evE, evA, evT, evG, evO, evI, evC, bindP, Res.bind_ok, List.length_cons, List.length_nil, List.map_cons, List.map_nil, List.cons_append, List.nil_append, List.getElem?_cons_zero, List.getElem?_cons_succ, Option.join_some, Res.of_some, Res.of_none, Res.sr_ok, SR.then_next, List.replicate, List.set_cons_zero, List.set_cons_succ, cmpB, ordB, C.d, binD, negD, SR.then_ret, SR.res, Option.map_some, bltD, mthD, h1, cc, Bool.false_eq_true, if_false]
/-! the digits -/
def st60 : St := (.seq (.iff (.cmp .Gt (.var 5) (.con (.int 0))) (.seq (.expr (.mth .append (.var 3) (.cons (.bin .Mod (.blt .int (.cons (.var 5) .nil)) (.con (.int 1000))) .nil))) (.seq (.asg (.pt (.nm 5)) (.bin .FloorDiv (.var 5) (.con (.int 1000)))) .skip)) .skip) .skip)
def sl60 : St := .forr (.nm 6) (.range1 (.con (.int 60))) st60
def st12 : St := (.seq (.asg (.pt (.nm 7)) (.bin .Mod (.blt .int (.cons (.bin .Add (.bin .Add (.bin .Mult (.var 7) (.con (.int 16807))) (.bin .Mult (.con (.int 7)) (.var 6))) (.con (.int 1))) .nil)) (.con (.int 2147483647)))) (.seq (.expr (.mth .append (.var 3) (.cons (.bin .Mod (.blt .int (.cons (.bin .FloorDiv (.var 7) (.con (.int 997))) .nil)) (.con (.int 1000))) .nil))) .skip))
def sl12 : St := .forr (.nm 6) (.range1 (.con (.int 12))) st12
def bk : St := (.seq (.asg (.pt (.nm 5)) (.call 13 (.cons (.var 0) (.cons (.var 4) .nil)))) (.seq (.iff (.cmp .Lt (.var 5) (.con (.int 0))) (.seq (.asg (.pt (.nm 5)) (.bin .Sub (.con (.int 1)) (.bin .Mult (.con (.int 2)) (.var 5)))) .skip) .skip) (.seq (.iff (.cmp .GtE (.var 5) (.bin .Pow (.con (.int 10)) (.con (.int 18)))) (.seq sl60 .skip) (.seq (.asg (.pt (.nm 7)) (.bin .Mod (.blt .int (.cons (.bin .Add (.bin .Add (.bin .Mult (.var 5) (.con (.int 48271))) (.bin .Mult (.var 4) (.con (.int 69621)))) (.con (.int 11))) .nil)) (.con (.int 2147483647)))) (.seq sl12 .skip))) .skip)))
theorem f12_eq : f12 = ⟨3, 8, (.seq (.asg (.pt (.nm 3)) (.lst .nil)) (.seq (.forr (.nm 4) (.range2 (.var 1) (.var 2)) bk) (.seq (.ret (.var 3)) .skip)))⟩ := rfl
theorem ii (i : Int) (S : Sto) : intD [.int i] S = .ok (.int i) S := Eq.trans rfl rfl
theorem add_i (i j : Int) (S : Sto) : addD (.int i) (.int j) S = .ok (.int (i + j)) S := Eq.trans rfl rfl
theorem fd1000 : (0 : Int) < 1000 ∧ (1000 : Int).natAbs.log2 < 9000 := ⟨by decide, log_small (by decide) (by decide)⟩
theorem fd997 : (0 : Int) < 997 ∧ (997 : Int).natAbs.log2 < 9000 := ⟨by decide, log_small (by decide) (by decide)⟩
theorem mul_okR (x : Int) {y : Int} (h : y.natAbs ≤ 100000) : mulOk x y = true := by
  unfold mulOk
  rw [decide_eq_true (.inr (by omega))]
  rfl
section
variable {U : Nat → List D → Sto → Res D} {S0 : Sto}
theorem cell_at (X : O) : (S0 ++ [X])[S0.length]? = some X := by rw [List.getElem?_append_right (Nat.le_refl _), Nat.sub_self]; rfl
theorem cell_set (X Y : O) : (S0 ++ [X]).set S0.length Y = S0 ++ [Y] := by
  rw [List.set_append_right _ _ (Nat.le_refl _), Nat.sub_self]
  rfl
theorem app_ok (xs : List Int) (i : Int) (h : xs.length < 5000) : appendD (.ref S0.length) [.int i] (S0 ++ [.lst (xs.map D.int)]) = .ok .non (S0 ++ [.lst ((xs ++ [i]).map D.int)]) := by
  show (match (S0 ++ [O.lst (xs.map D.int)])[S0.length]? with
    | some (O.lst ys) => if ys.length < sizeLine then Res.ok D.non ((S0 ++ [O.lst (xs.map D.int)]).set S0.length (O.lst (ys ++ [D.int i]))) else .bad
    | _ => .bad) = _
  rw [cell_at]
  show (if (xs.map D.int).length < sizeLine then _ else _) = _
  rw [if_pos (by rw [List.length_map]; exact Nat.lt_trans h (by decide)), cell_set, List.map_append]
  rfl
theorem app_mt (X : List D) : mtB .append (.ref S0.length) (S0 ++ [.lst X]) = true := by
  show (match (S0 ++ [O.lst X])[S0.length]? with | some (O.lst _) => true | _ => false) = true
  rw [cell_at]
theorem range_ok (n : Nat) (hn : n ≤ 1000) (ρ : Rv.Env) (S : Sto) : evI U (.range1 (.con (.int n))) ρ S = .ok ((List.range n).map fun (j : Nat) => D.int j, none) S := by
  have hc : (-1000000 : Int) ≤ n ∧ (n : Int) ≤ 1000000 := by omega
  simp -implicitDefEqProofs only [evI, evE, C.d, Res.bind_ok, if_pos hc, Int.toNat_natCast]
theorem L_60 (a0 a1 a2 a4 : Option D) (cell : Int) (v6 v7 : Option D) (xs : List Int) (h : xs.length + 60 ≤ 4000) :
    ∃ (cell' : Int) (w6 : Option D) (ys : List Int), evS U sl60 [a0, a1, a2, some (.ref S0.length), a4, some (.int cell), v6, v7] (S0 ++ [.lst (xs.map D.int)]) = .next [a0, a1, a2, some (.ref S0.length), a4, some (.int cell'), w6, v7] (S0 ++ [.lst (ys.map D.int)]) ∧ ys.length ≤ xs.length + 60 := by
  obtain ⟨ρ', S', e, cell', w6, ys, rfl, rfl, hl⟩ := forr_inv (U := U) (p := .nm 6) (b := st60) (fun j ρ S => ∃ (cell' : Int) (w6 : Option D) (ys : List Int), ρ = [a0, a1, a2, some (.ref S0.length), a4, some (.int cell'), w6, v7] ∧ S = S0 ++ [.lst (ys.map D.int)] ∧ ys.length ≤ xs.length + j)
    (range_ok 60 (by decide) [a0, a1, a2, some (.ref S0.length), a4, some (.int cell), v6, v7] (S0 ++ [.lst (xs.map D.int)])) (fun _ _ _ _ => rfl) (by
      rintro x hx j ρ S hj ⟨c, w6, ys, rfl, rfl, hl⟩
      rw [List.length_map, List.length_range] at hj
      by_cases hc : (0 : Int) < c
      · refine ⟨_, _, ?_, c / 1000, some x, ys ++ [c % 1000], rfl, rfl, by rw [List.length_append, List.length_singleton]; omega⟩
        have ap := app_ok (S0 := S0) ys (c % 1000) (by omega)
        have m1 := app_mt (S0 := S0) (ys.map D.int)
        have p1 : (0 : Int) < 1000 := by decide
        simp -implicitDefEqProofs only [st60, startD, evS, evE, evA, evT, evG, evO, evI, evC, bindP, Res.bind_ok, List.length_cons, List.length_nil, List.map_cons, List.map_nil, List.cons_append, List.nil_append, List.getElem?_cons_zero, List.getElem?_cons_succ, Option.join_some, Res.of_some, Res.of_none, Res.sr_ok, SR.then_next, List.replicate, List.set_cons_zero, List.set_cons_succ, cmpB, ordB, C.d, binD, negD, SR.then_ret, SR.res, Option.map_some, bltD, mthD, decide_eq_true hc, if_true, m1, ii, if_pos p1, ap, if_pos fd1000]
      · refine ⟨_, _, ?_, c, some x, ys, rfl, rfl, by omega⟩
        simp -implicitDefEqProofs only [st60, startD, evS, evE, evA, evT, evG, evO, evI, evC, bindP, Res.bind_ok, List.length_cons, List.length_nil, List.map_cons, List.map_nil, List.cons_append, List.nil_append, List.getElem?_cons_zero, List.getElem?_cons_succ, Option.join_some, Res.of_some, Res.of_none, Res.sr_ok, SR.then_next, List.replicate, List.set_cons_zero, List.set_cons_succ, cmpB, ordB, C.d, binD, negD, SR.then_ret, SR.res, Option.map_some, bltD, mthD, decide_eq_false hc, Bool.false_eq_true, if_false]) ⟨cell, v6, xs, rfl, rfl, Nat.le_refl _⟩
  exact ⟨cell', w6, ys, e, by simpa using hl⟩
theorem L_12 (a0 a1 a2 a4 a5 : Option D) (v6 : Option D) (seed : Int) (xs : List Int) (h : xs.length + 60 ≤ 4000) :
    ∃ (seed' : Int) (w6 : Option D) (ys : List Int), evS U sl12 [a0, a1, a2, some (.ref S0.length), a4, a5, v6, some (.int seed)] (S0 ++ [.lst (xs.map D.int)]) = .next [a0, a1, a2, some (.ref S0.length), a4, a5, w6, some (.int seed')] (S0 ++ [.lst (ys.map D.int)]) ∧ ys.length ≤ xs.length + 60 := by
  obtain ⟨ρ', S', e, seed', w6, ys, rfl, rfl, hl⟩ := forr_inv (U := U) (p := .nm 6) (b := st12) (fun j ρ S => ∃ (seed' : Int) (w6 : Option D) (ys : List Int), ρ = [a0, a1, a2, some (.ref S0.length), a4, a5, w6, some (.int seed')] ∧ S = S0 ++ [.lst (ys.map D.int)] ∧ ys.length ≤ xs.length + j)
    (range_ok 12 (by decide) [a0, a1, a2, some (.ref S0.length), a4, a5, v6, some (.int seed)] (S0 ++ [.lst (xs.map D.int)])) (fun _ _ _ _ => rfl) (by
      rintro x hx j ρ S hj ⟨c, w6, ys, rfl, rfl, hl⟩
      rw [List.length_map, List.length_range] at hj
      obtain ⟨t, _, rfl⟩ := List.mem_map.mp hx
      refine ⟨_, _, ?_, (c * 16807 + 7 * t + 1) % 2147483647, some (.int t), ys ++ [(c * 16807 + 7 * t + 1) % 2147483647 / 997 % 1000], rfl, rfl, by rw [List.length_append, List.length_singleton]; omega⟩
      have ap := app_ok (S0 := S0) ys ((c * 16807 + 7 * t + 1) % 2147483647 / 997 % 1000) (by omega)
      have m1 := app_mt (S0 := S0) (ys.map D.int)
      have p1 : (0 : Int) < 1000 := by decide
      have p2 : (0 : Int) < 2147483647 := by decide
      have o1 := mul_okR c (y := 16807) (by decide)
      have o2 := mul_ok (x := 7) t (by decide)
      simp -implicitDefEqProofs only [st12, startD, evS, evE, evA, evT, evG, evO, evI, evC, bindP, Res.bind_ok, List.length_cons, List.length_nil, List.map_cons, List.map_nil, List.cons_append, List.nil_append, List.getElem?_cons_zero, List.getElem?_cons_succ, Option.join_some, Res.of_some, Res.of_none, Res.sr_ok, SR.then_next, List.replicate, List.set_cons_zero, List.set_cons_succ, cmpB, ordB, C.d, binD, negD, SR.then_ret, SR.res, Option.map_some, bltD, mthD, m1, ii, if_pos p1, if_pos p2, o1, o2, if_true, add_i, ap, if_pos fd997]) ⟨seed, v6, xs, rfl, rfl, Nat.le_refl _⟩
  exact ⟨seed', w6, ys, e, Nat.le_trans hl (by simp)⟩
theorem L_bk (ns : List Int) (c : D) (hT : ∀ (S : Sto) (j : Nat), Scr ns S c → ∃ x : Int, U 13 [c, .int j] S = .ok (.int x) S) (hS : ∀ X, Scr ns (S0 ++ X) c) (a1 a2 v5 v6 v7 : Option D) (kk : Nat) (xs : List Int) (h : xs.length + 60 ≤ 4000) :
    ∃ (w5 w6 w7 : Option D) (ys : List Int), evS U bk [some c, a1, a2, some (.ref S0.length), some (.int kk), v5, v6, v7] (S0 ++ [.lst (xs.map D.int)]) = .next [some c, a1, a2, some (.ref S0.length), some (.int kk), w5, w6, w7] (S0 ++ [.lst (ys.map D.int)]) ∧ ys.length ≤ xs.length + 60 := by
  obtain ⟨x, ex⟩ := hT (S0 ++ [.lst (xs.map D.int)]) kk (hS _)
  have key : ∀ y : Int, ∃ (w5 w6 w7 : Option D) (ys : List Int), evS U (.seq (.iff (.cmp .GtE (.var 5) (.bin .Pow (.con (.int 10)) (.con (.int 18)))) (.seq sl60 .skip) (.seq (.asg (.pt (.nm 7)) (.bin .Mod (.blt .int (.cons (.bin .Add (.bin .Add (.bin .Mult (.var 5) (.con (.int 48271))) (.bin .Mult (.var 4) (.con (.int 69621)))) (.con (.int 11))) .nil)) (.con (.int 2147483647)))) (.seq sl12 .skip))) .skip) [some c, a1, a2, some (.ref S0.length), some (.int kk), some (.int y), v6, v7] (S0 ++ [.lst (xs.map D.int)]) = .next [some c, a1, a2, some (.ref S0.length), some (.int kk), w5, w6, w7] (S0 ++ [.lst (ys.map D.int)]) ∧ ys.length ≤ xs.length + 60 := by
    intro y
    have pw : (0 : Int) ≤ 18 ∧ (18 : Int) ≤ 1000000 ∧ (10 : Int).natAbs < 2 ^ 64 := by decide
    by_cases hy : (10 : Int) ^ (18 : Int).toNat ≤ y
    · obtain ⟨c', w6, ys, e, hl⟩ := L_60 (U := U) (S0 := S0) (some c) a1 a2 (some (.int kk)) y v6 v7 xs h
      refine ⟨some (.int c'), w6, v7, ys, ?_, hl⟩
      simp -implicitDefEqProofs only [startD, evS, evE, evA, evT, evG, evO, evI, evC, bindP, Res.bind_ok, List.length_cons, List.length_nil, List.map_cons, List.map_nil, List.cons_append, List.nil_append, List.getElem?_cons_zero, List.getElem?_cons_succ, Option.join_some, Res.of_some, Res.of_none, Res.sr_ok, SR.then_next, List.replicate, List.set_cons_zero, List.set_cons_succ, cmpB, ordB, C.d, binD, negD, SR.then_ret, SR.res, Option.map_some, bltD, mthD, if_pos pw, decide_eq_true hy, if_true, e]
    · have p2 : (0 : Int) < 2147483647 := by decide
      have o1 := mul_okR y (y := 48271) (by decide)
      have o2 := mul_okR (kk : Int) (y := 69621) (by decide)
      obtain ⟨sd, w6, ys, e, hl⟩ := L_12 (U := U) (S0 := S0) (some c) a1 a2 (some (.int kk)) (some (.int y)) v6 ((y * 48271 + kk * 69621 + 11) % 2147483647) xs h
      refine ⟨some (.int y), w6, some (.int sd), ys, ?_, hl⟩
      simp -implicitDefEqProofs only [startD, evS, evE, evA, evT, evG, evO, evI, evC, bindP, Res.bind_ok, List.length_cons, List.length_nil, List.map_cons, List.map_nil, List.cons_append, List.nil_append, List.getElem?_cons_zero, List.getElem?_cons_succ, Option.join_some, Res.of_some, Res.of_none, Res.sr_ok, SR.then_next, List.replicate, List.set_cons_zero, List.set_cons_succ, cmpB, ordB, C.d, binD, negD, SR.then_ret, SR.res, Option.map_some, bltD, mthD, if_pos pw, decide_eq_false hy, Bool.false_eq_true, if_false, if_true, o1, o2, add_i, ii, if_pos p2, e]
  unfold bk
  by_cases hx : x < 0
  · have o := mul_ok (x := 2) x (by decide)
    obtain ⟨w5, w6, w7, ys, e, hl⟩ := key (1 - 2 * x)
    refine ⟨w5, w6, w7, ys, ?_, hl⟩
    rw [evS_seq (ρ1 := [some c, a1, a2, some (.ref S0.length), some (.int kk), some (.int x), v6, v7]) (S1 := S0 ++ [.lst (xs.map D.int)]) (by simp -implicitDefEqProofs only [startD, evS, evE, evA, evT, evG, evO, evI, evC, bindP, Res.bind_ok, List.length_cons, List.length_nil, List.map_cons, List.map_nil, List.cons_append, List.nil_append, List.getElem?_cons_zero, List.getElem?_cons_succ, Option.join_some, Res.of_some, Res.of_none, Res.sr_ok, SR.then_next, List.replicate, List.set_cons_zero, List.set_cons_succ, cmpB, ordB, C.d, binD, negD, SR.then_ret, SR.res, Option.map_some, bltD, mthD, ex])]
    rw [evS_seq (ρ1 := [some c, a1, a2, some (.ref S0.length), some (.int kk), some (.int (1 - 2 * x)), v6, v7]) (S1 := S0 ++ [.lst (xs.map D.int)]) (by simp -implicitDefEqProofs only [startD, evS, evE, evA, evT, evG, evO, evI, evC, bindP, Res.bind_ok, List.length_cons, List.length_nil, List.map_cons, List.map_nil, List.cons_append, List.nil_append, List.getElem?_cons_zero, List.getElem?_cons_succ, Option.join_some, Res.of_some, Res.of_none, Res.sr_ok, SR.then_next, List.replicate, List.set_cons_zero, List.set_cons_succ, cmpB, ordB, C.d, binD, negD, SR.then_ret, SR.res, Option.map_some, bltD, mthD, decide_eq_true hx, if_true, o])]
    exact e
  · obtain ⟨w5, w6, w7, ys, e, hl⟩ := key x
    refine ⟨w5, w6, w7, ys, ?_, hl⟩
    rw [evS_seq (ρ1 := [some c, a1, a2, some (.ref S0.length), some (.int kk), some (.int x), v6, v7]) (S1 := S0 ++ [.lst (xs.map D.int)]) (by simp -implicitDefEqProofs only [startD, evS, evE, evA, evT, evG, evO, evI, evC, bindP, Res.bind_ok, List.length_cons, List.length_nil, List.map_cons, List.map_nil, List.cons_append, List.nil_append, List.getElem?_cons_zero, List.getElem?_cons_succ, Option.join_some, Res.of_some, Res.of_none, Res.sr_ok, SR.then_next, List.replicate, List.set_cons_zero, List.set_cons_succ, cmpB, ordB, C.d, binD, negD, SR.then_ret, SR.res, Option.map_some, bltD, mthD, ex])]
    rw [evS_seq (ρ1 := [some c, a1, a2, some (.ref S0.length), some (.int kk), some (.int x), v6, v7]) (S1 := S0 ++ [.lst (xs.map D.int)]) (by simp -implicitDefEqProofs only [startD, evS, evE, evA, evT, evG, evO, evI, evC, bindP, Res.bind_ok, List.length_cons, List.length_nil, List.map_cons, List.map_nil, List.cons_append, List.nil_append, List.getElem?_cons_zero, List.getElem?_cons_succ, Option.join_some, Res.of_some, Res.of_none, Res.sr_ok, SR.then_next, List.replicate, List.set_cons_zero, List.set_cons_succ, cmpB, ordB, C.d, binD, negD, SR.then_ret, SR.res, Option.map_some, bltD, mthD, decide_eq_false hx, Bool.false_eq_true, if_false])]
    exact e
end
theorem L_digits (k : Nat) {ns : List Int} {S0 : Sto} {c : D} (hS : ∀ X, Scr ns (S0 ++ X) c) : ∃ ys : List Int, T (k + 2) 12 [c, .int 0, .int 62] S0 = .ok (.ref S0.length) (S0 ++ [.lst (ys.map D.int)]) := by
  rw [T_at (f := f12) rfl rfl]
  have hT := fun (S : Sto) (j : Nat) (h : Scr ns S c) => L_cell k h j
  generalize T (k + 1) = U at hT ⊢
  rw [f12_eq]
  have hc : (-1000000 : Int) ≤ 0 ∧ (0 : Int) ≤ 1000000 ∧ (-1000000 : Int) ≤ 62 ∧ (62 : Int) ≤ 1000000 := by decide
  have hI : evI U (.range2 (.var 1) (.var 2)) [some c, some (.int 0), some (.int 62), some (.ref S0.length), none, none, none, none] (S0 ++ [.lst []]) = .ok ((List.range 62).map fun (j : Nat) => D.int (0 + j), none) (S0 ++ [.lst []]) := by
    simp -implicitDefEqProofs only [startD, evS, evE, evA, evT, evG, evO, evI, evC, bindP, Res.bind_ok, List.length_cons, List.length_nil, List.map_cons, List.map_nil, List.cons_append, List.nil_append, List.getElem?_cons_zero, List.getElem?_cons_succ, Option.join_some, Res.of_some, Res.of_none, Res.sr_ok, SR.then_next, List.replicate, List.set_cons_zero, List.set_cons_succ, cmpB, ordB, C.d, binD, negD, SR.then_ret, SR.res, Option.map_some, bltD, mthD, if_pos hc]
    exact Eq.trans rfl rfl
  obtain ⟨ρ', S', e, v4, v5, v6, v7, ys, rfl, rfl, hl⟩ := forr_inv (U := U) (p := .nm 4) (b := bk) (fun j ρ S => ∃ (v4 v5 v6 v7 : Option D) (ys : List Int), ρ = [some c, some (.int 0), some (.int 62), some (.ref S0.length), v4, v5, v6, v7] ∧ S = S0 ++ [.lst (ys.map D.int)] ∧ ys.length ≤ 60 * j)
    hI (fun _ _ _ _ => rfl) (by
      rintro x hx j ρ S hj ⟨v4, v5, v6, v7, ys, rfl, rfl, hl⟩
      rw [List.length_map, List.length_range] at hj
      obtain ⟨t, _, rfl⟩ := List.mem_map.mp hx
      obtain ⟨w5, w6, w7, zs, e, hl2⟩ := L_bk ns c hT hS (some (.int 0)) (some (.int 62)) v5 v6 v7 t ys (by omega)
      refine ⟨_, _, ?_, some (.int t), w5, w6, w7, zs, rfl, rfl, by omega⟩
      rw [Int.zero_add]
      exact e) ⟨none, none, none, none, [], rfl, rfl, Nat.zero_le _⟩
  refine ⟨ys, ?_⟩
  have z0 : 0 ≤ sizeLine := by decide
  show (evS U (.seq (.asg (.pt (.nm 3)) (.lst .nil)) _) [some c, some (.int 0), some (.int 62), none, none, none, none, none] S0).res = _
  rw [evS_seq (ρ1 := [some c, some (.int 0), some (.int 62), some (.ref S0.length), none, none, none, none]) (S1 := S0 ++ [.lst []]) (by simp -implicitDefEqProofs only [startD, evS, evE, evA, evT, evG, evO, evI, evC, bindP, Res.bind_ok, List.length_cons, List.length_nil, List.map_cons, List.map_nil, List.cons_append, List.nil_append, List.getElem?_cons_zero, List.getElem?_cons_succ, Option.join_some, Res.of_some, Res.of_none, Res.sr_ok, SR.then_next, List.replicate, List.set_cons_zero, List.set_cons_succ, cmpB, ordB, C.d, binD, negD, SR.then_ret, SR.res, Option.map_some, bltD, mthD, if_pos z0]), evS_seq e]
  simp -implicitDefEqProofs only [startD, evS, evE, evA, evT, evG, evO, evI, evC, bindP, Res.bind_ok, List.length_cons, List.length_nil, List.map_cons, List.map_nil, List.cons_append, List.nil_append, List.getElem?_cons_zero, List.getElem?_cons_succ, Option.join_some, Res.of_some, Res.of_none, Res.sr_ok, SR.then_next, List.replicate, List.set_cons_zero, List.set_cons_succ, cmpB, ordB, C.d, binD, negD, SR.then_ret, SR.res, Option.map_some, bltD, mthD]
theorem L_box (k : Nat) {ns : List Int} {S0 : Sto} {c : D} (hS : ∀ X, Scr ns (S0 ++ X) c) : ∃ (b : Nat) (S' : Sto), T (k + 3) 11 [c, .int 0, .int 62] S0 = .ok (.ref b) S' ∧ Bx b S' := by
  obtain ⟨ys, e⟩ := L_digits k hS
  refine ⟨(S0 ++ [O.lst (ys.map D.int)]).length, (S0 ++ [O.lst (ys.map D.int)]) ++ [.lst [.ref S0.length, .int 0]], ?_, S0.length, 0, ys, ?_, ?_, ?_⟩
  · rw [T_at (f := f11) rfl rfl]
    generalize T (k + 2) = U at e ⊢
    have two := two_line
    simp -implicitDefEqProofs only [f11, startD, evS, evE, evA, evT, evG, evO, evI, evC, bindP, Res.bind_ok, List.length_cons, List.length_nil, List.map_cons, List.map_nil, List.cons_append, List.nil_append, List.getElem?_cons_zero, List.getElem?_cons_succ, Option.join_some, Res.of_some, Res.of_none, Res.sr_ok, SR.then_next, List.replicate, List.set_cons_zero, List.set_cons_succ, cmpB, ordB, C.d, binD, negD, SR.then_ret, SR.res, Option.map_some, bltD, mthD, e, if_pos two]
  · rw [List.getElem?_append_right (Nat.le_refl _), Nat.sub_self]; rfl
  · rw [List.getElem?_append_left (by simp)]; exact cell_at _
  · simp
end K75

set_option Elab.async false
set_option linter.all false
set_option maxRecDepth 100000
set_option maxHeartbeats 1000000
namespace Rv
theorem comp_none {step : D → Sto → Res (Option D)} : ∀ {xs : List D} {S : Sto}, (∀ x ∈ xs, step x S = .ok none S) → compL none step xs S = .ok [] S
  | [], S, _ => by unfold compL; exact if_pos rfl
  | x :: xs, S, h => by
    unfold compL
    show (if true = true then (step x S).bind _ else _) = _
    rw [if_pos rfl, h x (by simp), Res.bind_ok, comp_none fun y hy => h y (by simp [hy])]
    exact Eq.trans rfl rfl
end Rv
namespace K75
open PySem Rv
def lcx : E := (.lc [8] (.nm 8) (.range2 (.con (.int 2)) (.con (.int 150))) (.one (.and (.cmp .Eq (.bin .Mod (.blt .int (.cons (.idx (.var 7) (.con (.int 0))) .nil)) (.var 8)) (.con (.int 0))) (.one (.cmp .Eq (.bin .Mod (.blt .int (.cons (.idx (.var 7) (.con (.int 1))) .nil)) (.var 8)) (.con (.int 0)))))) (.var 8))
def o0 : St := (.iff (.or (.cmp .IsNot (.call 3 (.cons (.var 7) .nil)) (.con (.bl true))) (.or (.cmp .Lt (.idx (.var 7) (.con (.int 1))) (.con (.int 1))) (.one (.cmp .Gt (.blt .len (.cons lcx .nil)) (.con (.int 0)))))) (.seq (.ret (.con (.bl false))) .skip) .skip)
def o1 : St := (.asg (.pt (.nm 9)) (.call 17 (.cons (.var 7) .nil)))
def o2 : St := (.iff (.cmp .NotEq (.call 8 (.cons (.var 7) .nil)) (.var 9)) (.seq (.ret (.con (.bl false))) .skip) .skip)
def o3 : St := (.iff (.and (.cmp .GtE (.idx (.var 7) (.con (.int 0))) (.con (.int 0))) (.one (.not (.call 16 (.cons (.call 9 (.cons (.var 9) .nil)) (.cons (.var 7) .nil)))))) (.seq (.ret (.con (.bl false))) .skip) .skip)
def o4 : St := (.asg (.pt (.nm 10)) (.bin .Add (.call 15 (.cons (.var 1) (.cons (.con (.int 9)) .nil))) (.con (.int 1))))
def o5 : St := (.iff (.or (.not (.call 16 (.cons (.call 2 (.cons (.bin .Mult (.idx (.var 7) (.con (.int 0))) (.var 10)) (.cons (.bin .Mult (.idx (.var 7) (.con (.int 1))) (.var 10)) .nil))) (.cons (.var 7) .nil)))) (.one (.not (.call 16 (.cons (.call 2 (.cons (.bin .Sub (.con (.int 0)) (.bin .Mult (.idx (.var 7) (.con (.int 0))) (.var 10))) (.cons (.bin .Sub (.con (.int 0)) (.bin .Mult (.idx (.var 7) (.con (.int 1))) (.var 10))) .nil))) (.cons (.var 7) .nil)))))) (.seq (.ret (.con (.bl false))) .skip) .skip)
def o6 : St := (.iff (.and (.cmp .Gt (.var 10) (.con (.int 1))) (.one (.cmp .IsNot (.call 3 (.cons (.tup (.cons (.bin .Mult (.idx (.var 7) (.con (.int 0))) (.var 10)) (.cons (.bin .Mult (.idx (.var 7) (.con (.int 1))) (.var 10)) .nil))) .nil)) (.con (.bl false))))) (.seq (.ret (.con (.bl false))) .skip) .skip)
def stO : St := (.seq o0 (.seq o1 (.seq o2 (.seq o3 (.seq o4 (.seq o5 (.seq o6 .skip)))))))
def t0 : St := (.asg (.pt (.nm 3)) (.call 14 (.cons (.var 1) .nil)))
def t1 : St := (.asg (.pt (.nm 4)) (.call 14 (.cons (.var 1) .nil)))
def t2 : St := (.asg (.pt (.nm 5)) (.call 14 (.cons (.var 1) .nil)))
def t3 : St := (.asg (.pt (.nm 6)) (.call 4 (.cons (.var 3) (.cons (.var 4) .nil))))
def t4 : St := (.iff (.or (.not (.call 16 (.cons (.var 6) (.cons (.call 4 (.cons (.var 4) (.cons (.var 3) .nil))) .nil)))) (.one (.not (.call 16 (.cons (.call 4 (.cons (.var 6) (.cons (.var 5) .nil))) (.cons (.call 4 (.cons (.var 3) (.cons (.call 4 (.cons (.var 4) (.cons (.var 5) .nil))) .nil))) .nil)))))) (.seq (.ret (.con (.bl false))) .skip) .skip)
def t5 : St := (.iff (.or (.not (.call 16 (.cons (.call 6 (.cons (.var 3) (.cons (.call 4 (.cons (.var 4) (.cons (.var 5) .nil))) .nil))) (.cons (.call 4 (.cons (.call 6 (.cons (.var 3) (.cons (.var 4) .nil))) (.cons (.call 6 (.cons (.var 3) (.cons (.var 5) .nil))) .nil))) .nil)))) (.one (.not (.call 16 (.cons (.call 6 (.cons (.var 3) (.cons (.var 4) .nil))) (.cons (.call 6 (.cons (.var 4) (.cons (.var 3) .nil))) .nil)))))) (.seq (.ret (.con (.bl false))) .skip) .skip)
def t6 : St := (.iff (.or (.not (.call 16 (.cons (.call 5 (.cons (.var 6) (.cons (.var 4) .nil))) (.cons (.var 3) .nil)))) (.or (.not (.call 16 (.cons (.call 5 (.cons (.var 3) (.cons (.var 3) .nil))) (.cons (.tup (.cons (.con (.int 0)) (.cons (.con (.int 1)) .nil))) .nil)))) (.one (.not (.call 16 (.cons (.call 6 (.cons (.var 3) (.cons (.tup (.cons (.con (.int 1)) (.cons (.con (.int 1)) .nil))) .nil))) (.cons (.var 3) .nil))))))) (.seq (.ret (.con (.bl false))) .skip) .skip)
def t7 : St := (.iff (.or (.not (.call 16 (.cons (.call 7 (.cons (.var 3) (.cons (.var 4) .nil))) (.cons (.call 7 (.cons (.call 4 (.cons (.var 3) (.cons (.var 5) .nil))) (.cons (.call 4 (.cons (.var 4) (.cons (.var 5) .nil))) .nil))) .nil)))) (.one (.cmp .IsNot (.call 7 (.cons (.var 3) (.cons (.var 3) .nil))) (.con (.bl false))))) (.seq (.ret (.con (.bl false))) .skip) .skip)
def t8 : St := (.iff (.cmp .NotEq (.mth .countB (.lst (.cons (.call 7 (.cons (.var 3) (.cons (.var 4) .nil))) (.cons (.call 7 (.cons (.var 4) (.cons (.var 3) .nil))) (.cons (.cmp .Eq (.var 3) (.var 4)) .nil)))) (.cons (.con (.bl true)) .nil)) (.con (.int 1))) (.seq (.ret (.con (.bl false))) .skip) .skip)
def t9 : St := (.iff (.not (.call 16 (.cons (.call 7 (.cons (.var 3) (.cons (.var 4) .nil))) (.cons (.cmp .Lt (.idx (.call 5 (.cons (.var 3) (.cons (.var 4) .nil))) (.con (.int 0))) (.con (.int 0))) .nil)))) (.seq (.ret (.con (.bl false))) .skip) .skip)
def t10 : St := .forr (.nm 7) (.seqI (.lst (.cons (.var 3) (.cons (.var 6) (.cons (.call 6 (.cons (.var 3) (.cons (.var 4) .nil))) (.cons (.call 5 (.cons (.var 3) (.cons (.var 4) .nil))) .nil)))))) stO
def stT : St := (.seq t0 (.seq t1 (.seq t2 (.seq t3 (.seq t4 (.seq t5 (.seq t6 (.seq t7 (.seq t8 (.seq t9 (.seq t10 .skip)))))))))))
def stX : St := (.seq (.iff (.cmp .IsNot (.call 9 (.cons (.var 9) .nil)) (.con .non)) (.seq (.ret (.con (.bl false))) .skip) .skip) .skip)
theorem f18_eq : f18 = ⟨1, 11, (.seq (.asg (.pt (.nm 1)) (.call 11 (.cons (.var 0) (.cons (.con (.int 0)) (.cons (.con (.int 62)) .nil))))) (.seq (.forr (.nm 2) (.range1 (.con (.int 8))) stT) (.seq (.forr (.nm 9) (.seqI (.lst (.cons (.con (.str "")) (.cons (.con (.str "1/")) (.cons (.con (.str "/2")) (.cons (.con (.str "2/4")) (.cons (.con (.str "1/1")) (.cons (.con (.str "0/1")) (.cons (.con (.str "01")) (.cons (.con (.str "1/02")) (.cons (.con (.str "1/0")) (.cons (.con (.str " 1")) (.cons (.con (.str "1 ")) (.cons (.con (.str "1/2/3")) (.cons (.con (.str "x")) (.cons (.con (.str "+1")) (.cons (.con (.str "1.5")) (.cons (.con (.str "1234567890123")) (.cons (.con (.str "1/1234567890123")) .nil))))))))))))))))))) stX) (.seq (.ret (.con (.bl true))) .skip))))⟩ := rfl
theorem no_common (r : Rat) {j : Int} (hj : 2 ≤ j) (h1 : r.num % j = 0) (h2 : (r.den : Int) % j = 0) : False := by
  have d1 : j.natAbs ∣ r.num.natAbs := Int.natAbs_dvd_natAbs.mpr (Int.dvd_of_emod_eq_zero h1)
  have d2 : j.natAbs ∣ r.den := by
    have := Int.natAbs_dvd_natAbs.mpr (Int.dvd_of_emod_eq_zero h2)
    rwa [nb] at this
  have d3 := Nat.dvd_gcd d1 d2
  have e : Nat.gcd r.num.natAbs r.den = 1 := r.reduced
  rw [e] at d3
  have := Nat.le_of_dvd (by decide) d3
  omega
theorem L_lc (U : Nat → List D → Sto → Res D) (S : Sto) (r : Rat) (a0 a1 a2 a3 a4 a5 a6 a8 a9 a10 : Option D) : evE U lcx [a0, a1, a2, a3, a4, a5, a6, some (Q r), a8, a9, a10] S = .ok (.ref S.length) (S ++ [.lst []]) := by
  have hc : (-1000000 : Int) ≤ 2 ∧ (2 : Int) ≤ 1000000 ∧ (-1000000 : Int) ≤ 150 ∧ (150 : Int) ≤ 1000000 := by decide
  unfold lcx Q
  simp -implicitDefEqProofs only [evE, evI, C.d, Res.bind_ok, if_pos hc]
  rw [comp_none]
  · exact Eq.trans rfl rfl
  · intro x hx
    obtain ⟨t, _, rfl⟩ := List.mem_map.mp hx
    have hp : (0 : Int) < 2 + t := by omega
    by_cases h1 : r.num % (2 + (t : Int)) = 0
    · have h2 : ¬ ((r.den : Int) % (2 + (t : Int)) = 0) := fun z => no_common r (by omega) h1 z
      simp -implicitDefEqProofs only [startD, evS, evE, evA, evT, evG, evO, evI, evC, bindP, Res.bind_ok, List.length_cons, List.length_nil, List.map_cons, List.map_nil, List.cons_append, List.nil_append, List.getElem?_cons_zero, List.getElem?_cons_succ, Option.join_some, Res.of_some, Res.of_none, Res.sr_ok, SR.then_next, List.replicate, List.set_cons_zero, List.set_cons_succ, cmpB, ordB, C.d, binD, negD, SR.then_ret, SR.res, Option.map_some, bltD, mthD, wipeD, ix0, ix1, ii, if_pos hp, eq_int, decide_eq_true h1, decide_eq_false h2, if_true, Bool.false_eq_true, if_false, Res.hard]
    · simp -implicitDefEqProofs only [startD, evS, evE, evA, evT, evG, evO, evI, evC, bindP, Res.bind_ok, List.length_cons, List.length_nil, List.map_cons, List.map_nil, List.cons_append, List.nil_append, List.getElem?_cons_zero, List.getElem?_cons_succ, Option.join_some, Res.of_some, Res.of_none, Res.sr_ok, SR.then_next, List.replicate, List.set_cons_zero, List.set_cons_succ, cmpB, ordB, C.d, binD, negD, SR.then_ret, SR.res, Option.map_some, bltD, mthD, wipeD, ix0, ix1, ii, if_pos hp, eq_int, decide_eq_false h1, Bool.false_eq_true, if_false, Res.hard]
theorem isb (a b : Bool) : isB (.bl a) (.bl b) = some (decide (a = b)) := Eq.trans rfl rfl
theorem neg_div (r : Rat) (b : Int) (hb : 0 < b) : Rat.divInt (0 - r.num * b) (0 - r.den * b) = r := by
  have e1 : 0 - r.num * b = r.num * -b := by rw [Int.mul_neg]; omega
  have e2 : 0 - (r.den : Int) * b = r.den * -b := by rw [Int.mul_neg]; omega
  rw [e1, e2, Rat.divInt_mul_right (by omega), Rat.num_divInt_den]
theorem mul_div' (r : Rat) (b : Int) (hb : 0 < b) : Rat.divInt (r.num * b) (r.den * b) = r := by
  rw [Rat.divInt_mul_right (by omega), Rat.num_divInt_den]
theorem L_own (k b : Nat) (S : Sto) (r : Rat) (hr : Bd r 300) (hb : Bx b S) (a0 a2 a3 a4 a5 a6 a8 a9 a10 : Option D) :
    ∃ (w9 w10 : Option D) (S' : Sto), evS (T (k + 4)) stO [a0, some (.ref b), a2, a3, a4, a5, a6, some (Q r), a8, a9, a10] S = .next [a0, some (.ref b), a2, a3, a4, a5, a6, some (Q r), a8, w9, w10] S' ∧ Bx b S' ∧ Ex b S S' := by
  have hr3 := hr.mono (n := 30000) (by decide)
  have p := den_pos r
  have b1 := hb.app [.lst []]
  obtain ⟨d, S2, e4, l4, u4, b2, x2⟩ := L_draw (k + 3) b _ 9 (by decide) b1
  have q3 := fun S => L_isqQ (k + 1) S r hr3
  have q17 := fun S => L_ltext (k + 3) S r hr3
  have q8 := fun S => L_write (k + 3) S r hr3
  have q9 := fun (h : 0 ≤ r.num) S => L_read k S r hr3 h
  have q16 := fun S => L_same_Q (k + 2) S r
  have hd0 : (0 : Int) < d + 1 := by omega
  have q2 := fun S => L_quot (k + 2) S (r.num * (d + 1)) (r.den * (d + 1)) (Int.mul_ne_zero (by omega) (by omega)) (prod_small (dn hr3) (by omega))
  have q2n := fun S => L_quot (k + 2) S (0 - r.num * (d + 1)) (0 - r.den * (d + 1)) (by have := Int.mul_pos p hd0; omega) (by
    have := prod_small (dn hr3) (y := d + 1) (by omega)
    have e : (0 - (r.den : Int) * (d + 1)).natAbs = ((r.den : Int) * (d + 1)).natAbs := by rw [Int.zero_sub, Int.natAbs_neg]
    rw [e]; exact this)
  rw [mul_div' r _ hd0] at q2
  rw [neg_div r _ hd0] at q2n
  have qN := fun (h : 1 < d + 1) S => L_isqN (k + 1) S r (d + 1) h (by omega) hr3
  have lcx_ok := L_lc (T (k + 4)) S r a0 (some (.ref b)) a2 a3 a4 a5 a6 a8 a9 a10
  have ln : lenD [.ref S.length] (S ++ [.lst []]) = .ok (.int 0) (S ++ [.lst []]) := len_ref (cell_at _)
  generalize T (k + 4) = U at *
  have c1 : decide ((r.den : Int) < 1) = false := decide_eq_false (by omega)
  have c0 : decide ((0 : Int) < 0) = false := by decide
  have r0 : evS U o0 [a0, some (.ref b), a2, a3, a4, a5, a6, some (Q r), a8, a9, a10] S = .next [a0, some (.ref b), a2, a3, a4, a5, a6, some (Q r), a8, a9, a10] (S ++ [.lst []]) := by
    unfold Q at q3 lcx_ok ⊢
    simp -implicitDefEqProofs only [o0, startD, evS, evE, evA, evT, evG, evO, evI, evC, bindP, Res.bind_ok, List.length_cons, List.length_nil, List.map_cons, List.map_nil, List.cons_append, List.nil_append, List.getElem?_cons_zero, List.getElem?_cons_succ, Option.join_some, Res.of_some, Res.of_none, Res.sr_ok, SR.then_next, List.replicate, List.set_cons_zero, List.set_cons_succ, cmpB, ordB, C.d, binD, negD, SR.then_ret, SR.res, Option.map_some, bltD, mthD, q3, isb, decide_true, Bool.not_true, Bool.false_eq_true, if_false, ix1, c1, lcx_ok, ln, c0]
  have r1 : evS U o1 [a0, some (.ref b), a2, a3, a4, a5, a6, some (Q r), a8, a9, a10] (S ++ [.lst []]) = .next [a0, some (.ref b), a2, a3, a4, a5, a6, some (Q r), a8, some (.str (txt r)), a10] (S ++ [.lst []]) := by
    simp -implicitDefEqProofs only [o1, startD, evS, evE, evA, evT, evG, evO, evI, evC, bindP, Res.bind_ok, List.length_cons, List.length_nil, List.map_cons, List.map_nil, List.cons_append, List.nil_append, List.getElem?_cons_zero, List.getElem?_cons_succ, Option.join_some, Res.of_some, Res.of_none, Res.sr_ok, SR.then_next, List.replicate, List.set_cons_zero, List.set_cons_succ, cmpB, ordB, C.d, binD, negD, SR.then_ret, SR.res, Option.map_some, bltD, mthD, q17]
  have r2 : evS U o2 [a0, some (.ref b), a2, a3, a4, a5, a6, some (Q r), a8, some (.str (txt r)), a10] (S ++ [.lst []]) = .next [a0, some (.ref b), a2, a3, a4, a5, a6, some (Q r), a8, some (.str (txt r)), a10] (S ++ [.lst []]) := by
    simp -implicitDefEqProofs only [o2, startD, evS, evE, evA, evT, evG, evO, evI, evC, bindP, Res.bind_ok, List.length_cons, List.length_nil, List.map_cons, List.map_nil, List.cons_append, List.nil_append, List.getElem?_cons_zero, List.getElem?_cons_succ, Option.join_some, Res.of_some, Res.of_none, Res.sr_ok, SR.then_next, List.replicate, List.set_cons_zero, List.set_cons_succ, cmpB, ordB, C.d, binD, negD, SR.then_ret, SR.res, Option.map_some, bltD, mthD, q8, eq_str, decide_true, Bool.not_true, Bool.false_eq_true, if_false]
  have r3 : evS U o3 [a0, some (.ref b), a2, a3, a4, a5, a6, some (Q r), a8, some (.str (txt r)), a10] (S ++ [.lst []]) = .next [a0, some (.ref b), a2, a3, a4, a5, a6, some (Q r), a8, some (.str (txt r)), a10] (S ++ [.lst []]) := by
    by_cases h : (0 : Int) ≤ r.num
    · have q9' := q9 h
      unfold Q at q9' q16 ⊢
      simp -implicitDefEqProofs only [o3, startD, evS, evE, evA, evT, evG, evO, evI, evC, bindP, Res.bind_ok, List.length_cons, List.length_nil, List.map_cons, List.map_nil, List.cons_append, List.nil_append, List.getElem?_cons_zero, List.getElem?_cons_succ, Option.join_some, Res.of_some, Res.of_none, Res.sr_ok, SR.then_next, List.replicate, List.set_cons_zero, List.set_cons_succ, cmpB, ordB, C.d, binD, negD, SR.then_ret, SR.res, Option.map_some, bltD, mthD, ix0, decide_eq_true h, if_true, q9', q16, tr_b, Bool.not_true, Bool.false_eq_true, if_false]
    · unfold Q
      simp -implicitDefEqProofs only [o3, startD, evS, evE, evA, evT, evG, evO, evI, evC, bindP, Res.bind_ok, List.length_cons, List.length_nil, List.map_cons, List.map_nil, List.cons_append, List.nil_append, List.getElem?_cons_zero, List.getElem?_cons_succ, Option.join_some, Res.of_some, Res.of_none, Res.sr_ok, SR.then_next, List.replicate, List.set_cons_zero, List.set_cons_succ, cmpB, ordB, C.d, binD, negD, SR.then_ret, SR.res, Option.map_some, bltD, mthD, ix0, decide_eq_false h, Bool.false_eq_true, if_false]
  have r4 : evS U o4 [a0, some (.ref b), a2, a3, a4, a5, a6, some (Q r), a8, some (.str (txt r)), a10] (S ++ [.lst []]) = .next [a0, some (.ref b), a2, a3, a4, a5, a6, some (Q r), a8, some (.str (txt r)), some (.int (d + 1))] S2 := by
    simp -implicitDefEqProofs only [o4, startD, evS, evE, evA, evT, evG, evO, evI, evC, bindP, Res.bind_ok, List.length_cons, List.length_nil, List.map_cons, List.map_nil, List.cons_append, List.nil_append, List.getElem?_cons_zero, List.getElem?_cons_succ, Option.join_some, Res.of_some, Res.of_none, Res.sr_ok, SR.then_next, List.replicate, List.set_cons_zero, List.set_cons_succ, cmpB, ordB, C.d, binD, negD, SR.then_ret, SR.res, Option.map_some, bltD, mthD, e4, add_i]
  have m1 := mul_ok (d + 1) hr3.1
  have m2 := mul_ok (d + 1) (dn hr3)
  have r5 : evS U o5 [a0, some (.ref b), a2, a3, a4, a5, a6, some (Q r), a8, some (.str (txt r)), some (.int (d + 1))] S2 = .next [a0, some (.ref b), a2, a3, a4, a5, a6, some (Q r), a8, some (.str (txt r)), some (.int (d + 1))] S2 := by
    unfold Q at q2 q2n q16 ⊢
    simp -implicitDefEqProofs only [o5, startD, evS, evE, evA, evT, evG, evO, evI, evC, bindP, Res.bind_ok, List.length_cons, List.length_nil, List.map_cons, List.map_nil, List.cons_append, List.nil_append, List.getElem?_cons_zero, List.getElem?_cons_succ, Option.join_some, Res.of_some, Res.of_none, Res.sr_ok, SR.then_next, List.replicate, List.set_cons_zero, List.set_cons_succ, cmpB, ordB, C.d, binD, negD, SR.then_ret, SR.res, Option.map_some, bltD, mthD, ix0, ix1, m1, m2, if_true, q2, q2n, q16, tr_b, Bool.not_true, Bool.false_eq_true, if_false]
  have r6 : evS U o6 [a0, some (.ref b), a2, a3, a4, a5, a6, some (Q r), a8, some (.str (txt r)), some (.int (d + 1))] S2 = .next [a0, some (.ref b), a2, a3, a4, a5, a6, some (Q r), a8, some (.str (txt r)), some (.int (d + 1))] S2 := by
    have two := two_line
    by_cases h : (1 : Int) < d + 1
    · have qN' := qN h
      unfold Q
      simp -implicitDefEqProofs only [o6, startD, evS, evE, evA, evT, evG, evO, evI, evC, bindP, Res.bind_ok, List.length_cons, List.length_nil, List.map_cons, List.map_nil, List.cons_append, List.nil_append, List.getElem?_cons_zero, List.getElem?_cons_succ, Option.join_some, Res.of_some, Res.of_none, Res.sr_ok, SR.then_next, List.replicate, List.set_cons_zero, List.set_cons_succ, cmpB, ordB, C.d, binD, negD, SR.then_ret, SR.res, Option.map_some, bltD, mthD, ix0, ix1, m1, m2, if_true, decide_eq_true h, if_pos two, qN', isb, decide_true, Bool.not_true, Bool.false_eq_true, if_false]
    · unfold Q
      simp -implicitDefEqProofs only [o6, startD, evS, evE, evA, evT, evG, evO, evI, evC, bindP, Res.bind_ok, List.length_cons, List.length_nil, List.map_cons, List.map_nil, List.cons_append, List.nil_append, List.getElem?_cons_zero, List.getElem?_cons_succ, Option.join_some, Res.of_some, Res.of_none, Res.sr_ok, SR.then_next, List.replicate, List.set_cons_zero, List.set_cons_succ, cmpB, ordB, C.d, binD, negD, SR.then_ret, SR.res, Option.map_some, bltD, mthD, decide_eq_false h, Bool.false_eq_true, if_false]
  refine ⟨some (.str (txt r)), some (.int (d + 1)), S2, ?_, b2, (Ex.app _).trans x2⟩
  unfold stO
  rw [evS_seq r0, evS_seq r1, evS_seq r2, evS_seq r3, evS_seq r4, evS_seq r5, evS_seq r6]
  exact evS_skip
end K75

set_option Elab.async false
set_option linter.all false
set_option maxRecDepth 100000
set_option maxHeartbeats 1000000
namespace K75
open PySem Rv
theorem num_neg_iff (a b : Rat) : (a - b).num < 0 ↔ a < b := by
  have h1 : 0 ≤ (a - b).num ↔ b ≤ a := by rw [Rat.num_nonneg]; exact (Rat.le_iff_sub_nonneg b a).symm
  have h2 : (a - b).num < 0 ↔ ¬ 0 ≤ (a - b).num := by omega
  rw [h2, h1, Rat.not_le]
theorem eq_Q (S : Sto) (a b : Rat) : eqD S (Q a) (Q b) = some (decide (a = b)) := by
  unfold Q
  rw [eq_pair]
  congr 1
  by_cases h : a = b
  · subst h; simp
  · rw [decide_eq_false h]
    by_cases h1 : a.num = b.num
    · have h2 : ¬ ((a.den : Int) = b.den) := fun z => h (Rat.ext h1 (by omega))
      rw [decide_eq_false h2, Bool.and_false]
    · rw [decide_eq_false h1, Bool.false_and]
theorem tri (a b : Rat) : List.countP (fun y => eqF y (.bl true)) [D.bl (decide (a < b)), .bl (decide (b < a)), .bl (decide (a = b))] = 1 := by
  have e1 : eqF (.bl true) (.bl true) = true := by decide
  have e2 : eqF (.bl false) (.bl true) = false := by decide
  by_cases h1 : a < b
  · have h2 : ¬ b < a := fun z => by
      have := Rat.not_le.mpr z
      exact this (Rat.le_of_lt h1)
    have h3 : ¬ a = b := fun z => by subst z; exact Rat.lt_irrefl h1
    simp [h1, h2, h3, e1, e2]
  · by_cases h2 : b < a
    · have h3 : ¬ a = b := fun z => by subst z; exact Rat.lt_irrefl h2
      simp [h1, h2, h3, e1, e2]
    · have h3 : a = b := Rat.le_antisymm (Rat.not_lt.mp h2) (Rat.not_lt.mp h1)
      subst h3
      simp [h1, e1, e2]
theorem L_turn (k b : Nat) (S : Sto) (hb : Bx b S) (a0 a2 a3 a4 a5 a6 a7 a8 a9 a10 : Option D) :
    ∃ (w3 w4 w5 w6 w7 w9 w10 : Option D) (S' : Sto), evS (T (k + 4)) stT [a0, some (.ref b), a2, a3, a4, a5, a6, a7, a8, a9, a10] S = .next [a0, some (.ref b), a2, w3, w4, w5, w6, w7, a8, w9, w10] S' ∧ Bx b S' := by
  obtain ⟨x, S1, e1, d1, b1, x1⟩ := L_drawn (k + 1) b S hb
  obtain ⟨y, S2, e2, d2, b2, x2⟩ := L_drawn (k + 1) b S1 b1
  obtain ⟨z, S3, e3, d3, b3, x3⟩ := L_drawn (k + 1) b S2 b2
  have f {r : Rat} {n : Nat} (h : Bd r n) (l : n ≤ 30000) : Bd r 30000 := h.mono l
  have dxy := bd_add d1 d2
  have dyz := bd_add d2 d3
  have dxz := bd_add d1 d3
  have X := f d1 (by decide)
  have Y := f d2 (by decide)
  have Z := f d3 (by decide)
  have XY := f dxy (by decide)
  have YZ := f dyz (by decide)
  have XZ := f dxz (by decide)
  have mXY := f (bd_mul d1 d2) (by decide)
  have mXZ := f (bd_mul d1 d3) (by decide)
  have one_b : Bd 1 30000 := by constructor <;> decide
  have p1 := fun S => L_plus (k + 1) S x y X Y
  have p2 := fun S => L_plus (k + 1) S y x Y X
  have p3 := fun S => L_plus (k + 1) S (x + y) z XY Z
  have p4 := fun S => L_plus (k + 1) S y z Y Z
  have p5 := fun S => L_plus (k + 1) S x (y + z) X YZ
  have p6 := fun S => L_plus (k + 1) S (x * y) (x * z) mXY mXZ
  have p7 := fun S => L_plus (k + 1) S x z X Z
  have m1 := fun S => L_times (k + 1) S x (y + z) X YZ
  have m2 := fun S => L_times (k + 1) S x y X Y
  have m3 := fun S => L_times (k + 1) S x z X Z
  have m4 := fun S => L_times (k + 1) S y x Y X
  have m5 := fun S => L_times (k + 1) S x 1 X one_b
  have s1 := fun S => L_minus (k + 1) S (x + y) y XY Y
  have s2 := fun S => L_minus (k + 1) S x x X X
  have s3 := fun S => L_minus (k + 1) S x y X Y
  have l1 := fun S => L_less (k + 3) S x y X Y
  have l2 := fun S => L_less (k + 3) S (x + z) (y + z) XZ YZ
  have l3 := fun S => L_less (k + 3) S x x X X
  have l4 := fun S => L_less (k + 3) S y x Y X
  have sq := fun S r => L_same_Q (k + 2) S r
  have sb := fun S u v => L_same_b (k + 3) S u v
  have own := fun (b : Nat) (S : Sto) (r : Rat) (hr : Bd r 300) (hb : Bx b S) a0 a2 a3 a4 a5 a6 a8 a9 a10 => L_own k b S r hr hb a0 a2 a3 a4 a5 a6 a8 a9 a10
  rw [Rat.add_comm y x] at p2
  rw [Rat.add_assoc] at p3
  rw [Rat.mul_add] at m1
  rw [Rat.mul_comm y x] at m4
  rw [Rat.mul_one] at m5
  rw [Rat.add_sub_cancel] at s1
  rw [Rat.sub_self] at s2
  rw [show decide (x + z < y + z) = decide (x < y) from decide_eq_decide.mpr Rat.add_lt_add_right] at l2
  rw [show decide (x < x) = false from decide_eq_false Rat.lt_irrefl] at l3
  have q0 : Q 0 = .tup [.int 0, .int 1] := Eq.trans rfl rfl
  have q1 : Q 1 = .tup [.int 1, .int 1] := Eq.trans rfl rfl
  have sq0 := fun S => sq S 0
  rw [q0] at s2 sq0
  rw [q1] at m5
  generalize T (k + 4) = U at *
  have two := two_line
  have three : 0 + 1 + 1 + 1 ≤ sizeLine := by decide
  have four : 0 + 1 + 1 + 1 + 1 ≤ sizeLine := by decide
  have r0 : evS U t0 [a0, some (.ref b), a2, a3, a4, a5, a6, a7, a8, a9, a10] S = .next [a0, some (.ref b), a2, some (Q x), a4, a5, a6, a7, a8, a9, a10] S1 := by
    simp -implicitDefEqProofs only [t0, startD, evS, evE, evA, evT, evG, evO, evI, evC, bindP, Res.bind_ok, List.length_cons, List.length_nil, List.map_cons, List.map_nil, List.cons_append, List.nil_append, List.getElem?_cons_zero, List.getElem?_cons_succ, Option.join_some, Res.of_some, Res.of_none, Res.sr_ok, SR.then_next, List.replicate, List.set_cons_zero, List.set_cons_succ, cmpB, ordB, C.d, binD, negD, SR.then_ret, SR.res, Option.map_some, bltD, mthD, e1]
  have r1 : evS U t1 [a0, some (.ref b), a2, some (Q x), a4, a5, a6, a7, a8, a9, a10] S1 = .next [a0, some (.ref b), a2, some (Q x), some (Q y), a5, a6, a7, a8, a9, a10] S2 := by
    simp -implicitDefEqProofs only [t1, startD, evS, evE, evA, evT, evG, evO, evI, evC, bindP, Res.bind_ok, List.length_cons, List.length_nil, List.map_cons, List.map_nil, List.cons_append, List.nil_append, List.getElem?_cons_zero, List.getElem?_cons_succ, Option.join_some, Res.of_some, Res.of_none, Res.sr_ok, SR.then_next, List.replicate, List.set_cons_zero, List.set_cons_succ, cmpB, ordB, C.d, binD, negD, SR.then_ret, SR.res, Option.map_some, bltD, mthD, e2]
  have r2 : evS U t2 [a0, some (.ref b), a2, some (Q x), some (Q y), a5, a6, a7, a8, a9, a10] S2 = .next [a0, some (.ref b), a2, some (Q x), some (Q y), some (Q z), a6, a7, a8, a9, a10] S3 := by
    simp -implicitDefEqProofs only [t2, startD, evS, evE, evA, evT, evG, evO, evI, evC, bindP, Res.bind_ok, List.length_cons, List.length_nil, List.map_cons, List.map_nil, List.cons_append, List.nil_append, List.getElem?_cons_zero, List.getElem?_cons_succ, Option.join_some, Res.of_some, Res.of_none, Res.sr_ok, SR.then_next, List.replicate, List.set_cons_zero, List.set_cons_succ, cmpB, ordB, C.d, binD, negD, SR.then_ret, SR.res, Option.map_some, bltD, mthD, e3]
  have r3 : evS U t3 [a0, some (.ref b), a2, some (Q x), some (Q y), some (Q z), a6, a7, a8, a9, a10] S3 = .next [a0, some (.ref b), a2, some (Q x), some (Q y), some (Q z), some (Q (x + y)), a7, a8, a9, a10] S3 := by
    simp -implicitDefEqProofs only [t3, startD, evS, evE, evA, evT, evG, evO, evI, evC, bindP, Res.bind_ok, List.length_cons, List.length_nil, List.map_cons, List.map_nil, List.cons_append, List.nil_append, List.getElem?_cons_zero, List.getElem?_cons_succ, Option.join_some, Res.of_some, Res.of_none, Res.sr_ok, SR.then_next, List.replicate, List.set_cons_zero, List.set_cons_succ, cmpB, ordB, C.d, binD, negD, SR.then_ret, SR.res, Option.map_some, bltD, mthD, p1]
  have r4 : evS U t4 [a0, some (.ref b), a2, some (Q x), some (Q y), some (Q z), some (Q (x + y)), a7, a8, a9, a10] S3 = .next [a0, some (.ref b), a2, some (Q x), some (Q y), some (Q z), some (Q (x + y)), a7, a8, a9, a10] S3 := by
    simp -implicitDefEqProofs only [t4, startD, evS, evE, evA, evT, evG, evO, evI, evC, bindP, Res.bind_ok, List.length_cons, List.length_nil, List.map_cons, List.map_nil, List.cons_append, List.nil_append, List.getElem?_cons_zero, List.getElem?_cons_succ, Option.join_some, Res.of_some, Res.of_none, Res.sr_ok, SR.then_next, List.replicate, List.set_cons_zero, List.set_cons_succ, cmpB, ordB, C.d, binD, negD, SR.then_ret, SR.res, Option.map_some, bltD, mthD, p2, p3, p4, p5, sq, tr_b, Bool.not_true, Bool.false_eq_true, if_false]
  have r5 : evS U t5 [a0, some (.ref b), a2, some (Q x), some (Q y), some (Q z), some (Q (x + y)), a7, a8, a9, a10] S3 = .next [a0, some (.ref b), a2, some (Q x), some (Q y), some (Q z), some (Q (x + y)), a7, a8, a9, a10] S3 := by
    simp -implicitDefEqProofs only [t5, startD, evS, evE, evA, evT, evG, evO, evI, evC, bindP, Res.bind_ok, List.length_cons, List.length_nil, List.map_cons, List.map_nil, List.cons_append, List.nil_append, List.getElem?_cons_zero, List.getElem?_cons_succ, Option.join_some, Res.of_some, Res.of_none, Res.sr_ok, SR.then_next, List.replicate, List.set_cons_zero, List.set_cons_succ, cmpB, ordB, C.d, binD, negD, SR.then_ret, SR.res, Option.map_some, bltD, mthD, p4, p6, m1, m2, m3, m4, sq, tr_b, Bool.not_true, Bool.false_eq_true, if_false]
  have r6 : evS U t6 [a0, some (.ref b), a2, some (Q x), some (Q y), some (Q z), some (Q (x + y)), a7, a8, a9, a10] S3 = .next [a0, some (.ref b), a2, some (Q x), some (Q y), some (Q z), some (Q (x + y)), a7, a8, a9, a10] S3 := by
    simp -implicitDefEqProofs only [t6, startD, evS, evE, evA, evT, evG, evO, evI, evC, bindP, Res.bind_ok, List.length_cons, List.length_nil, List.map_cons, List.map_nil, List.cons_append, List.nil_append, List.getElem?_cons_zero, List.getElem?_cons_succ, Option.join_some, Res.of_some, Res.of_none, Res.sr_ok, SR.then_next, List.replicate, List.set_cons_zero, List.set_cons_succ, cmpB, ordB, C.d, binD, negD, SR.then_ret, SR.res, Option.map_some, bltD, mthD, s1, s2, m5, if_pos two, sq, sq0, tr_b, Bool.not_true, Bool.false_eq_true, if_false]
  have r7 : evS U t7 [a0, some (.ref b), a2, some (Q x), some (Q y), some (Q z), some (Q (x + y)), a7, a8, a9, a10] S3 = .next [a0, some (.ref b), a2, some (Q x), some (Q y), some (Q z), some (Q (x + y)), a7, a8, a9, a10] S3 := by
    simp -implicitDefEqProofs only [t7, startD, evS, evE, evA, evT, evG, evO, evI, evC, bindP, Res.bind_ok, List.length_cons, List.length_nil, List.map_cons, List.map_nil, List.cons_append, List.nil_append, List.getElem?_cons_zero, List.getElem?_cons_succ, Option.join_some, Res.of_some, Res.of_none, Res.sr_ok, SR.then_next, List.replicate, List.set_cons_zero, List.set_cons_succ, cmpB, ordB, C.d, binD, negD, SR.then_ret, SR.res, Option.map_some, bltD, mthD, l1, l2, l3, p7, p4, sb, isb, decide_true, tr_b, Bool.not_true, Bool.false_eq_true, if_false]
  have cnt : countD (.ref S3.length) [.bl true] (S3 ++ [.lst [.bl (decide (x < y)), .bl (decide (y < x)), .bl (decide (x = y))]]) = .ok (.int 1) (S3 ++ [.lst [.bl (decide (x < y)), .bl (decide (y < x)), .bl (decide (x = y))]]) := by
    show (match (S3 ++ [O.lst [D.bl (decide (x < y)), .bl (decide (y < x)), .bl (decide (x = y))]])[S3.length]? with
      | some (O.lst ys) => if flatD (.bl true) = true ∧ ys.all flatD = true then Res.ok (D.int (ys.countP fun y => eqF y (.bl true))) (S3 ++ [O.lst [D.bl (decide (x < y)), .bl (decide (y < x)), .bl (decide (x = y))]]) else .bad
      | _ => .bad) = _
    rw [cell_at]
    show (if flatD (.bl true) = true ∧ [D.bl (decide (x < y)), .bl (decide (y < x)), .bl (decide (x = y))].all flatD = true then _ else _) = _
    rw [if_pos ⟨Eq.trans rfl rfl, Eq.trans rfl rfl⟩, tri]
    rfl
  have cmt : mtB .countB (.ref S3.length) (S3 ++ [.lst [.bl (decide (x < y)), .bl (decide (y < x)), .bl (decide (x = y))]]) = true := by
    show (match (S3 ++ [O.lst [D.bl (decide (x < y)), .bl (decide (y < x)), .bl (decide (x = y))]])[S3.length]? with | some (O.lst _) => true | _ => false) = true
    rw [cell_at]
  have r8 : evS U t8 [a0, some (.ref b), a2, some (Q x), some (Q y), some (Q z), some (Q (x + y)), a7, a8, a9, a10] S3 = .next [a0, some (.ref b), a2, some (Q x), some (Q y), some (Q z), some (Q (x + y)), a7, a8, a9, a10] (S3 ++ [.lst [.bl (decide (x < y)), .bl (decide (y < x)), .bl (decide (x = y))]]) := by
    simp -implicitDefEqProofs only [t8, startD, evS, evE, evA, evT, evG, evO, evI, evC, bindP, Res.bind_ok, List.length_cons, List.length_nil, List.map_cons, List.map_nil, List.cons_append, List.nil_append, List.getElem?_cons_zero, List.getElem?_cons_succ, Option.join_some, Res.of_some, Res.of_none, Res.sr_ok, SR.then_next, List.replicate, List.set_cons_zero, List.set_cons_succ, cmpB, ordB, C.d, binD, negD, SR.then_ret, SR.res, Option.map_some, bltD, mthD, l1, l4, eq_Q, if_pos three, cmt, cnt, eq_int, decide_true, Bool.not_true, Bool.false_eq_true, if_true, if_false]
  generalize hS4 : S3 ++ [O.lst [D.bl (decide (x < y)), .bl (decide (y < x)), .bl (decide (x = y))]] = S4 at r8
  have b4 : Bx b S4 := by rw [← hS4]; exact b3.app _
  have dd : decide ((x - y).num < 0) = decide (x < y) := decide_eq_decide.mpr (num_neg_iff x y)
  have ixn : ∀ (S : Sto), idxD S (Q (x - y)) (.int 0) = some (.int (x - y).num) := fun S => ix0 S _ _
  have r9 : evS U t9 [a0, some (.ref b), a2, some (Q x), some (Q y), some (Q z), some (Q (x + y)), a7, a8, a9, a10] S4 = .next [a0, some (.ref b), a2, some (Q x), some (Q y), some (Q z), some (Q (x + y)), a7, a8, a9, a10] S4 := by
    simp -implicitDefEqProofs only [t9, startD, evS, evE, evA, evT, evG, evO, evI, evC, bindP, Res.bind_ok, List.length_cons, List.length_nil, List.map_cons, List.map_nil, List.cons_append, List.nil_append, List.getElem?_cons_zero, List.getElem?_cons_succ, Option.join_some, Res.of_some, Res.of_none, Res.sr_ok, SR.then_next, List.replicate, List.set_cons_zero, List.set_cons_succ, cmpB, ordB, C.d, binD, negD, SR.then_ret, SR.res, Option.map_some, bltD, mthD, l1, s3, ixn, dd, sb, decide_true, tr_b, Bool.not_true, Bool.false_eq_true, if_false]
  -- the own loop
  have hI : evI U (.seqI (.lst (.cons (.var 3) (.cons (.var 6) (.cons (.call 6 (.cons (.var 3) (.cons (.var 4) .nil))) (.cons (.call 5 (.cons (.var 3) (.cons (.var 4) .nil))) .nil)))))) [a0, some (.ref b), a2, some (Q x), some (Q y), some (Q z), some (Q (x + y)), a7, a8, a9, a10] S4 = .ok ([Q x, Q (x + y), Q (x * y), Q (x - y)], some (S4.length, [Q x, Q (x + y), Q (x * y), Q (x - y)])) (S4 ++ [.lst [Q x, Q (x + y), Q (x * y), Q (x - y)]]) := by
    simp -implicitDefEqProofs only [startD, evS, evE, evA, evT, evG, evO, evI, evC, bindP, Res.bind_ok, List.length_cons, List.length_nil, List.map_cons, List.map_nil, List.cons_append, List.nil_append, List.getElem?_cons_zero, List.getElem?_cons_succ, Option.join_some, Res.of_some, Res.of_none, Res.sr_ok, SR.then_next, List.replicate, List.set_cons_zero, List.set_cons_succ, cmpB, ordB, C.d, binD, negD, SR.then_ret, SR.res, Option.map_some, bltD, mthD, m2, s3, if_pos four, cell_at]
  obtain ⟨ρ', S', e, w7, w9, w10, rfl, b', _⟩ := forr_inv (U := U) (p := .nm 7) (b := stO) (fun j ρ S => ∃ (w7 w9 w10 : Option D), ρ = [a0, some (.ref b), a2, some (Q x), some (Q y), some (Q z), some (Q (x + y)), w7, a8, w9, w10] ∧ Bx b S ∧ S[S4.length]? = some (.lst [Q x, Q (x + y), Q (x * y), Q (x - y)]))
    hI (fun j ρ S ⟨_, _, _, _, _, h⟩ => decide_eq_true h) (by
      rintro d hd j ρ S hj ⟨w7, w9, w10, rfl, hbx, hc⟩
      obtain ⟨r, rfl, hr⟩ : ∃ r, d = Q r ∧ Bd r 300 := by
        simp only [List.mem_cons, List.not_mem_nil, or_false] at hd
        rcases hd with rfl | rfl | rfl | rfl
        · exact ⟨_, rfl, d1.mono (by decide)⟩
        · exact ⟨_, rfl, dxy.mono (by decide)⟩
        · exact ⟨_, rfl, (bd_mul d1 d2).mono (by decide)⟩
        · exact ⟨_, rfl, (bd_sub d1 d2).mono (by decide)⟩
      obtain ⟨v9, v10, S', e, hb', hx'⟩ := own b S r hr hbx a0 a2 (some (Q x)) (some (Q y)) (some (Q z)) (some (Q (x + y))) a8 w9 w10
      exact ⟨_, _, e, some (Q r), v9, v10, rfl, hb', hx' _ _ (fun z => by have := b4.lt; omega) hc⟩) ⟨a7, a9, a10, rfl, b4.app _, cell_at _⟩
  refine ⟨some (Q x), some (Q y), some (Q z), some (Q (x + y)), w7, w9, w10, S', ?_, b'⟩
  unfold stT
  rw [evS_seq r0, evS_seq r1, evS_seq r2, evS_seq r3, evS_seq r4, evS_seq r5, evS_seq r6, evS_seq r7, evS_seq r8, evS_seq r9, evS_seq (show evS U t10 _ _ = _ from e)]
  exact evS_skip
theorem L_law (k : Nat) {ns : List Int} {S0 : Sto} {c : D} (h : Script ns S0 c) : ∃ S', T (k + 5) 18 [c] S0 = .ok (.bl true) S' := by
  obtain ⟨b, S1, e1, b1⟩ := L_box (k + 1) (scr_of h)
  have bad := fun S => L_bad k S
  have turn := fun (b : Nat) (S : Sto) (hb : Bx b S) a0 a2 a3 a4 a5 a6 a7 a8 a9 a10 => L_turn k b S hb a0 a2 a3 a4 a5 a6 a7 a8 a9 a10
  have go : ∃ S', (evS (T (k + 4)) f18.body (startD f18.ns [c]) S0).res = .ok (.bl true) S' := by
    rw [f18_eq]
    generalize T (k + 4) = U at *
    obtain ⟨ρ2, S2, e2, w2, w3, w4, w5, w6, w7, w9, w10, rfl, b2⟩ := forr_inv (U := U) (p := .nm 2) (b := stT) (fun j ρ S => ∃ (w2 w3 w4 w5 w6 w7 w9 w10 : Option D), ρ = [some c, some (.ref b), w2, w3, w4, w5, w6, w7, none, w9, w10] ∧ Bx b S)
      (range_ok 8 (by decide) [some c, some (.ref b), none, none, none, none, none, none, none, none, none] S1) (fun _ _ _ _ => rfl) (by
        rintro d hd j ρ S hj ⟨w2, w3, w4, w5, w6, w7, w9, w10, rfl, hbx⟩
        obtain ⟨v3, v4, v5, v6, v7, v9, v10, S', e, hb'⟩ := turn b S hbx (some c) (some d) w3 w4 w5 w6 w7 none w9 w10
        exact ⟨_, _, e, some d, v3, v4, v5, v6, v7, v9, v10, rfl, hb'⟩) ⟨none, none, none, none, none, none, none, none, rfl, b1⟩
    have nn : 0 + 1 + 1 + 1 + 1 + 1 + 1 + 1 + 1 + 1 + 1 + 1 + 1 + 1 + 1 + 1 + 1 + 1 ≤ sizeLine := by decide
    have hI : evI U (.seqI (.lst (.cons (.con (.str "")) (.cons (.con (.str "1/")) (.cons (.con (.str "/2")) (.cons (.con (.str "2/4")) (.cons (.con (.str "1/1")) (.cons (.con (.str "0/1")) (.cons (.con (.str "01")) (.cons (.con (.str "1/02")) (.cons (.con (.str "1/0")) (.cons (.con (.str " 1")) (.cons (.con (.str "1 ")) (.cons (.con (.str "1/2/3")) (.cons (.con (.str "x")) (.cons (.con (.str "+1")) (.cons (.con (.str "1.5")) (.cons (.con (.str "1234567890123")) (.cons (.con (.str "1/1234567890123")) .nil))))))))))))))))))) [some c, some (.ref b), w2, w3, w4, w5, w6, w7, none, w9, w10] S2 = .ok (badTexts.map D.str, some (S2.length, badTexts.map D.str)) (S2 ++ [.lst (badTexts.map D.str)]) := by
      simp -implicitDefEqProofs only [badTexts, startD, evS, evE, evA, evT, evG, evO, evI, evC, bindP, Res.bind_ok, List.length_cons, List.length_nil, List.map_cons, List.map_nil, List.cons_append, List.nil_append, List.getElem?_cons_zero, List.getElem?_cons_succ, Option.join_some, Res.of_some, Res.of_none, Res.sr_ok, SR.then_next, List.replicate, List.set_cons_zero, List.set_cons_succ, cmpB, ordB, C.d, binD, negD, SR.then_ret, SR.res, Option.map_some, bltD, mthD, if_pos nn, cell_at]
    obtain ⟨ρ3, S3, e3, v9, rfl, _⟩ := forr_inv (U := U) (p := .nm 9) (b := stX) (fun j ρ S => ∃ (v9 : Option D), ρ = [some c, some (.ref b), w2, w3, w4, w5, w6, w7, none, v9, w10] ∧ S[S2.length]? = some (.lst (badTexts.map D.str)))
      hI (fun j ρ S ⟨_, _, h⟩ => decide_eq_true h) (by
        rintro d hd j ρ S hj ⟨v9, rfl, hc⟩
        obtain ⟨z, hz, rfl⟩ := List.mem_map.mp hd
        have q := bad S z hz
        have nn : isB .non .non = some true := Eq.trans rfl rfl
        refine ⟨_, _, ?_, some (.str z), rfl, hc⟩
        simp -implicitDefEqProofs only [stX, startD, evS, evE, evA, evT, evG, evO, evI, evC, bindP, Res.bind_ok, List.length_cons, List.length_nil, List.map_cons, List.map_nil, List.cons_append, List.nil_append, List.getElem?_cons_zero, List.getElem?_cons_succ, Option.join_some, Res.of_some, Res.of_none, Res.sr_ok, SR.then_next, List.replicate, List.set_cons_zero, List.set_cons_succ, cmpB, ordB, C.d, binD, negD, SR.then_ret, SR.res, Option.map_some, bltD, mthD, q, nn, Bool.not_true, Bool.false_eq_true, if_false]) ⟨w9, rfl, cell_at _⟩
    refine ⟨S3, ?_⟩
    show (evS U (.seq (.asg (.pt (.nm 1)) (.call 11 (.cons (.var 0) (.cons (.con (.int 0)) (.cons (.con (.int 62)) .nil))))) _) [some c, none, none, none, none, none, none, none, none, none, none] S0).res = _
    rw [evS_seq (ρ1 := [some c, some (.ref b), none, none, none, none, none, none, none, none, none]) (S1 := S1) (by simp -implicitDefEqProofs only [startD, evS, evE, evA, evT, evG, evO, evI, evC, bindP, Res.bind_ok, List.length_cons, List.length_nil, List.map_cons, List.map_nil, List.cons_append, List.nil_append, List.getElem?_cons_zero, List.getElem?_cons_succ, Option.join_some, Res.of_some, Res.of_none, Res.sr_ok, SR.then_next, List.replicate, List.set_cons_zero, List.set_cons_succ, cmpB, ordB, C.d, binD, negD, SR.then_ret, SR.res, Option.map_some, bltD, mthD, e1]), evS_seq (show evS U (.forr (.nm 2) (.range1 (.con (.int 8))) stT) _ _ = _ from e2), evS_seq e3]
    simp -implicitDefEqProofs only [startD, evS, evE, evA, evT, evG, evO, evI, evC, bindP, Res.bind_ok, List.length_cons, List.length_nil, List.map_cons, List.map_nil, List.cons_append, List.nil_append, List.getElem?_cons_zero, List.getElem?_cons_succ, Option.join_some, Res.of_some, Res.of_none, Res.sr_ok, SR.then_next, List.replicate, List.set_cons_zero, List.set_cons_succ, cmpB, ordB, C.d, binD, negD, SR.then_ret, SR.res, Option.map_some, bltD, mthD]
  obtain ⟨S', e⟩ := go
  exact ⟨S', by rw [T_at (f := f18) rfl rfl]; exact e⟩
theorem law_pure : ∀ ns : List Int, ns.length ≤ 63 → ∀ S c, Script ns S c → ∃ S', evF (tabF rows) (7 + 1) 18 [c] S = .ok (.bl true) S' := fun ns _ S c h => L_law 3 h
end K75

set_option Elab.async false
set_option linter.all false
set_option maxRecDepth 100000
set_option maxHeartbeats 0
namespace K75
open PySem PySem.Spec PyProof.Rows L2 Rv
abbrev R : PySem.W.OpenRow := PySem.W.OpenLaw.row PySem.Challenge.rw_toldcost_k75_quotients_together
abbrev loose : List Str := ["is_whole", "common_divisor", "quotient", "is_quotient", "plus", "minus", "times", "is_less", "write_quotient", "read_quotient", "is_number_text", "_law_box", "_law_digits", "_law_cell", "_law_drawn_quotient", "_law_draw", "_law_same", "_law_quotient_text"]
abbrev hk : PySem.W.Hook := hookT 2 (faOf tb rows) (rows.map (·.d))
def ob (s : PySem.W.SharedT) : AlT := obsT 2 (faOf tb rows) (rows.map (·.d)) (HandSHeadRun.getT s)
theorem ob_eq (s : PySem.W.SharedT) : ob s = hk.obs s.abs := obsT_eq (HandSHeadRun.getT_eq s)
theorem run (w : World) : HandSHeadRun.RunEq R (PySem.W.view R.prog [21]) hk ob 6000 loose w := by
  intro os
  kernel_rfl
end K75
open PySem PySem.W PySem.Calls PyProof.Rows
theorem PySem.Challenge.cw_toldcost_k75_quotients_together_holds : PySem.Challenge.rw_toldcost_k75_quotients_together.Holds := by
  w_on; o_law
  refine HandSHeadRun.head_any (r := OpenLaw.row PySem.Challenge.rw_toldcost_k75_quotients_together) (q := view (OpenLaw.row PySem.Challenge.rw_toldcost_k75_quotients_together).prog [21]) (H := K75.hk) (ob := K75.ob) (M := 6000) (loose := K75.loose) (d := HandSHeadRun.topDef (OpenLaw.row PySem.Challenge.rw_toldcost_k75_quotients_together).prog 21) (kwd := []) K75.ob_eq
    (by kernel_rfl) (fun s => by kernel_rfl) K75.run (by kernel_rfl) (by kernel_rfl) (by kernel_rfl) (by rfl) (by first | assumption | decide +kernel) (by decide +kernel) ⟨rfl, rfl, rfl, rfl, rfl, by decide +kernel⟩ ?hw ?hc
  case hw => w_witness2
  case hc =>
    exact Rv.end_walk (l := PySem.Challenge.rw_toldcost_k75_quotients_together) (n := 63) (fuel := 7) (li := 18) (x := "script") (r := K75.r18) rfl (by decide) (by kernel_rfl) ⟨rfl, by decide, by decide⟩ (by decide +kernel) (by decide +kernel) K75.all_ok (by decide +kernel) K75.all_b rfl rfl (by kernel_rfl) K75.law_pure


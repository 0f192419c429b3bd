import PyProof.Rows.All
import PyProof.ReprReads
import Wide.All
import OpenK.AllK
import Wide.FinOn
import HandS.ForMost
import HandS.Exc
import HandS.ExcCtx
import HandS.HotCalls
import HandS.IsInst
import HandS.TupAny
import HandS.TupLe
import HandS.Wide
import HandS.Style
import HandS.ExcInit
import HandS.ExcField
import HandS.TupSets
import PySem.Challenge.RW_learnrealm_k00_shares_reckoned
set_option linter.all false
/-! The data layer, part a: pure data, the small language, its evaluator. No machine in sight. -/
namespace DL
open PySem

/-- pure data: what a value is, without addresses; a box is a thing that is changed (the law's own store of draws), scr the list that the law is handed -/
inductive D where
  | non | bl (b : Bool) | int (i : Int) | str (s : Str)
  | tup (xs : List D) | lst (xs : List D) | scr (xs : List D) | ins (c : Str) (fs : List D) | box (k : Nat)

/-- what a run gives: a value and the boxes' states, an own error with its fields, or no word -/
inductive R (J α : Type) where
  | ok (a : α) (s : List J) | exc (c : Str) (fs : List D) (s : List J) | stk
namespace R
variable {J α β : Type}
def bind (r : R J α) (f : α → List J → R J β) : R J β := match r with
  | .ok a s => f a s
  | .exc c fs s => .exc c fs s
  | .stk => .stk
@[simp] theorem bind_ok (a : α) (s : List J) (f : α → List J → R J β) : (R.ok a s).bind f = f a s := rfl
@[simp] theorem bind_exc (c : Str) (fs : List D) (s : List J) (f : α → List J → R J β) : (R.exc c fs s : R J α).bind f = .exc c fs s := rfl
@[simp] theorem bind_stk (f : α → List J → R J β) : (R.stk : R J α).bind f = .stk := rfl
end R

/-- what a def does: the arguments, the boxes; the value, and whether it is a new list that nobody else holds -/
abbrev Fn (J : Type) := List D → List J → R J (D × Bool)

/-- a target of an assignment, of a for -/
inductive Tg where
  | nm (i : Nat) (x : Str)
  | tp (l : List (Nat × Str))

/-- a def's word, its parameters, how it is called by keywords: how many ahead, which names -/
structure Sg where
  x : Str
  ps : List Str
  kl : List (Nat × List Str) := []

mutual
def toPy : D → PyData
  | .bl b => .bool b
  | .int i => .int i
  | .str x => .str x
  | .tup xs => .tuple (toPys xs)
  | .lst xs => .list (toPys xs)
  | _ => .none
def toPys : List D → List PyData
  | [] => []
  | d :: ds => toPy d :: toPys ds
end
mutual
/-- expressions; names are places in the def's list of names -/
inductive E (J : Type) where
  | var (i : Nat) (x : Str)
  | non | bl (b : Bool) | int (i : Int) | str (s : Str)
  | bin (o : Operator) (a b : E J)
  | neg (a : E J) | not (a : E J)
  | cmp (o : CmpOp) (a b : E J)
  | chn (o p : CmpOp) (a b c : E J)
  | bop (o : BoolOp) (es : Es J)
  | ife (c a b : E J)
  | tup (es : Es J) | lst (es : Es J)
  | sub (a i : E J)
  | slc (a lo hi : E J)
  | skip
  | rev (a : E J)
  | call (f : Sg) (g : Fn J) (es : Es J)
  | callk (f : Sg) (ks : List Str) (g : Fn J) (es kes : Es J)
  | bi (f : Str) (es : Es J)
  | isi (a : E J) (t : Str)
  | isi2 (a : E J) (t u : Str)
  | fld (a : E J) (f : Str)
  | lc (el : E J) (t : Tg) (it : E J) (cs : Es J) (own : List (Str × Nat))
  | rng1 (a : E J) | rng2 (a b : E J)
  | bix (get : J → List D) (a i : E J)
  | xf (i : Nat) (x f : Str)
  | rpe (a b : E J)
inductive Es (J : Type) where
  | nil | cons (e : E J) (es : Es J)
end

/-- a name's place: empty, holds data, or holds a list that nobody else holds -/
inductive Slot where
  | no | sh (d : D) | ow (ds : List D) | xc (c : Str) (fs : List D)
abbrev Env := List Slot

/-! ### values -/
abbrev line : Nat := 16777216
def D.flat : D → Bool
  | .non => true | .bl _ => true | .int _ => true | .str _ => true | _ => false
mutual
/-- data without instances, boxes, nested no deeper than n -/
def D.plain : Nat → D → Bool
  | _, .non => true | _, .bl _ => true | _, .int _ => true | _, .str x => x.cps.all (· < 1114112)
  | 0, _ => false
  | n + 1, .tup xs => decide (xs.length ≤ 16777216) && D.plains n xs
  | n + 1, .lst xs => decide (xs.length ≤ 16777216) && D.plains n xs
  | _, _ => false
def D.plains : Nat → List D → Bool
  | _, [] => true
  | n, x :: xs => D.plain n x && D.plains n xs
end
mutual
/-- Python's == of such -/
def D.eqv : D → D → Bool
  | .non, .non => true
  | .bl a, .bl b => a == b
  | .bl a, .int j => (if a then 1 else 0) == j
  | .int i, .bl b => i == (if b then 1 else 0)
  | .int i, .int j => i == j
  | .str x, .str y => x == y
  | .lst xs, .lst ys => D.eqvs xs ys
  | .tup xs, .tup ys => D.eqvs xs ys
  | _, _ => false
def D.eqvs : List D → List D → Bool
  | [], [] => true
  | x :: xs, y :: ys => D.eqv x y && D.eqvs xs ys
  | _, _ => false
end
def eqD (x y : D) : Option Bool := match x, y with
  | .str a, .str b => some (a == b)
  | x, y => if D.plain 60 x && D.plain 60 y then some (D.eqv x y) else none
/-- is: of a thing and None, True or False -/
def isD : D → D → Option Bool
  | x, .non => some (match x with | .non => true | _ => false)
  | x, .bl b => match x with | .bl a => some (a == b) | .box _ => none | .ins _ _ => none | .scr _ => none | _ => some false
  | _, _ => none
def mulOk (i j : Int) : Bool := decide (i.natAbs.log2 + j.natAbs.log2 < 1000000)
def divOk (j : Int) : Bool := decide (j ≠ 0) && decide (j.natAbs.log2 < 9000)
def powOk (i j : Int) : Bool := decide (0 ≤ j) && decide (j ≤ 1000000) && decide (i.natAbs < 2 ^ 64)
def binD : Operator → D → D → Option (D × Bool)
  | .Add, .int i, .int j => some (.int (i + j), false)
  | .Add, .tup a, .tup b => if a.length + b.length ≤ 16777216 then some (.tup (a ++ b), false) else none
  | .Add, .lst a, .lst b => if a.length + b.length ≤ 16777216 then some (.lst (a ++ b), true) else none
  | .Add, .str a, .str b => if a.length + b.length ≤ 16777216 then some (.str (a ++ b), false) else none
  | .Sub, .int i, .int j => some (.int (i - j), false)
  | .Mult, .int i, .int j => if mulOk i j then some (.int (i * j), false) else none
  | .FloorDiv, .int i, .int j => if divOk j then some (.int (i.fdiv j), false) else none
  | .Mod, .int i, .int j => if j = 0 then none else some (.int (i.fmod j), false)
  | .Pow, .int i, .int j => if powOk i j then some (.int (i ^ j.toNat), false) else none
  | .LShift, .int i, .int j => if powOk i j then some (.int (i * 2 ^ j.toNat), false) else none
  | .RShift, .int i, .int j => if 0 ≤ j then some (.int (i / 2 ^ j.toNat), false) else none
  | _, _, _ => none
def cmpD : CmpOp → D → D → Option Bool
  | .Lt, .int i, .int j => some (decide (i < j))
  | .LtE, .int i, .int j => some (decide (i ≤ j))
  | .Gt, .int i, .int j => some (decide (j < i))
  | .GtE, .int i, .int j => some (decide (j ≤ i))
  | .Eq, x, y => eqD x y
  | .NotEq, x, y => (eqD x y).map (!·)
  | .Is, x, y => isD x y
  | .IsNot, x, y => (isD x y).map (!·)
  | _, _, _ => none
/-- a slice's end as a place -/
def cutAt (n d : Nat) : Option Int → Nat
  | none => d
  | some v => if v < 0 then (v + (n : Int)).toNat else min v.toNat n
def cutL (xs : List D) (lo hi : Option Int) : List D := (xs.drop (cutAt xs.length 0 lo)).take (cutAt xs.length xs.length hi - cutAt xs.length 0 lo)
def ixOf (n : Nat) (i : Int) : Option Nat := if 0 ≤ i then (if i < n then some i.toNat else none) else if -(n : Int) ≤ i then some (i + n).toNat else none
def atD (xs : List D) (i : Int) : Option D := (ixOf xs.length i).bind fun j => xs[j]?
/-- built-in functions of the small language -/
def biFs : List Str := ["len", "abs", "int", "max", "min", "tuple", "list"]
/-- the type's name, of a value -/
def tyD : D → Str
  | .non => "NoneType" | .bl _ => "bool" | .int _ => "int" | .str _ => "str" | .tup _ => "tuple" | .lst _ => "list" | .scr _ => "list" | .ins c _ => c | .box _ => "list"
/-- isinstance with one type -/
def isiD (d : D) (t : Str) : Option Bool := match d with
  | .box _ => none
  | .scr _ => none
  | .bl _ => some (decide (t = "bool") || decide (t = "int"))
  | d => some (decide (t = tyD d))
/-- built-in functions -/
def biD (f : Str) (xs : List D) : Option (D × Bool) :=
  if f = "len" then match xs with
    | [.lst a] => some (.int a.length, false)
    | [.scr a] => some (.int a.length, false)
    | [.tup a] => some (.int a.length, false)
    | [.str a] => if a.length ≤ 16777216 then some (.int a.length, false) else none
    | _ => none
  else if f = "abs" then match xs with
    | [.int i] => some (.int (if i < 0 then -i else i), false)
    | _ => none
  else if f = "int" then match xs with
    | [.int i] => some (.int i, false)
    | [.bl b] => some (.int (if b then 1 else 0), false)
    | _ => none
  else if f = "max" then match xs with
    | [.int i, .int j] => some (.int (if j > i then j else i), false)
    | _ => none
  else if f = "min" then match xs with
    | [.int i, .int j] => some (.int (if j < i then j else i), false)
    | _ => none
  else if f = "tuple" then match xs with
    | [.lst a] => some (.tup a, false)
    | [.scr a] => some (.tup a, false)
    | [.tup a] => some (.tup a, false)
    | _ => none
  else if f = "list" then match xs with
    | [.lst a] => some (.lst a, true)
    | [.scr a] => some (.lst a, true)
    | [.tup a] => some (.lst a, true)
    | _ => none
  else none

variable {J : Type}
def lift (o : Option (D × Bool)) (s : List J) : R J (D × Bool) := match o with
  | some x => .ok x s
  | none => .stk
def liftB (o : Option Bool) (s : List J) : R J (D × Bool) := match o with
  | some b => .ok (.bl b, false) s
  | none => .stk
/-- the fields of a class's instances, by place -/
abbrev Flds := Str → List Str
def ixStr (f : Str) : List Str → Option Nat
  | [] => none
  | x :: xs => if x = f then some 0 else (ixStr f xs).map (· + 1)
def setTg : Tg → D → Env → Option Env
  | .nm i _, d, ρ => some (ρ.set i (.sh d))
  | .tp l, .tup ds, ρ => if l.length = ds.length then some ((l.zip ds).foldl (fun ρ p => ρ.set p.1.1 (.sh p.2)) ρ) else none
  | .tp _, _, _ => none
def wipeE (ρ : Env) : List (Str × Nat) → Env
  | [] => ρ
  | v :: vs => (wipeE ρ vs).set v.2 .no
def intsUp (lo : Int) : Nat → List D
  | 0 => []
  | n + 1 => .int lo :: intsUp (lo + 1) n

/-- a loop of a comprehension: item by item -/
def lcRun (t : Tg) (test : Env → List J → R J Bool) (el : Env → List J → R J (D × Bool)) (ρ : Env) : List D → List D → List J → R J (D × Bool)
  | [], acc, s => .ok (.lst acc, true) s
  | d :: ds, acc, s => match setTg t d ρ with
    | none => .stk
    | some ρ1 => match test ρ1 s with
      | .ok false s1 => lcRun t test el ρ ds acc s1
      | .ok true s1 => match el ρ1 s1 with
        | .ok x s2 => if acc.length < 16777216 then lcRun t test el ρ ds (acc ++ [x.1]) s2 else .stk
        | _ => .stk
      | _ => .stk
/-- the bool that a test gives -/
def boolOf (r : R J (D × Bool)) : R J Bool := r.bind fun x s => match x.1 with
  | .bl b => .ok b s
  | _ => .stk
def intOf (r : R J (D × Bool)) : R J Int := r.bind fun x s => match x.1 with
  | .int i => .ok i s
  | _ => .stk
def rngOk (i : Int) : Bool := decide (-(2 ^ 62) ≤ i) && decide (i < 2 ^ 62)

def isSkip : E J → Bool
  | .skip => true
  | _ => false
/-- a list, a tuple that repr tells -/
def rpOk (d : D) : Bool := (match d with | .lst _ => true | .tup _ => true | _ => false) && D.plain 60 d && (toPy d).showable && decide ((toPy d).shown.length ≤ 16777216)
def itemsOf : D → Option (List D)
  | .lst xs => some xs
  | .scr xs => some xs
  | .tup xs => some xs
  | _ => none
def liftO {α : Type} (o : Option α) (s : List J) : R J α := match o with
  | some x => .ok x s
  | none => .stk
/-- a call by keywords: the parameters, the keywords' names, the positional values, the keywords' values -/
def ordT {α : Type} (ks : List Str) (ys : List α) : List Str → Option (List α)
  | [] => some []
  | p :: ps => ((ixStr p ks).bind fun j => ys[j]?).bind fun y => (ordT ks ys ps).map (y :: ·)
def ordK {α : Type} (ps ks : List Str) (xs ys : List α) : Option (List α) := (ordT ks ys (ps.drop xs.length)).map (xs ++ ·)
mutual
/-- an expression; r: its value is only looked at, so that a name's own list may be meant -/
def ev (fl : Flds) (r : Bool) : E J → Env → List J → R J (D × Bool)
  | .var i _, ρ, s => match ρ[i]? with
    | some (.sh d) => .ok (d, false) s
    | some (.ow ds) => if r then .ok (.lst ds, false) s else .stk
    | _ => .stk
  | .non, _, s => .ok (.non, false) s
  | .bl b, _, s => .ok (.bl b, false) s
  | .int i, _, s => .ok (.int i, false) s
  | .str x, _, s => .ok (.str x, false) s
  | .bin o a b, ρ, s => (ev fl true a ρ s).bind fun x s => (ev fl true b ρ s).bind fun y s => lift (binD o x.1 y.1) s
  | .neg a, ρ, s => (intOf (ev fl false a ρ s)).bind fun i s => .ok (.int (-i), false) s
  | .not a, ρ, s => (boolOf (ev fl false a ρ s)).bind fun b s => .ok (.bl (!b), false) s
  | .cmp o a b, ρ, s => (ev fl true a ρ s).bind fun x s => (ev fl true b ρ s).bind fun y s => liftB (cmpD o x.1 y.1) s
  | .chn o p a b c, ρ, s => (ev fl true a ρ s).bind fun x s => (ev fl true b ρ s).bind fun y s => (boolOf (liftB (cmpD o x.1 y.1) s)).bind fun k s =>
      if k then (ev fl true c ρ s).bind fun z s => liftB (cmpD p y.1 z.1) s else .ok (.bl false, false) s
  | .bop o es, ρ, s => evb fl o es ρ s
  | .ife c a b, ρ, s => (boolOf (ev fl false c ρ s)).bind fun k s => if k then (ev fl false a ρ s).bind fun x s => .ok (x.1, false) s else (ev fl false b ρ s).bind fun x s => .ok (x.1, false) s
  | .tup es, ρ, s => (evs fl false es ρ s).bind fun xs s => if xs.length ≤ 16777216 then .ok (.tup xs, false) s else .stk
  | .lst es, ρ, s => (evs fl false es ρ s).bind fun xs s => if xs.length ≤ 16777216 then .ok (.lst xs, true) s else .stk
  | .sub a i, ρ, s => (ev fl true a ρ s).bind fun x s => (intOf (ev fl false i ρ s)).bind fun k s => liftO ((itemsOf x.1).bind fun xs => (atD xs k).map (·, false)) s
  | .slc a lo hi, ρ, s => (ev fl true a ρ s).bind fun x s =>
      (if isSkip lo then R.ok none s else (intOf (ev fl false lo ρ s)).bind fun i s => .ok (some i) s).bind fun l s =>
      (if isSkip hi then R.ok none s else (intOf (ev fl false hi ρ s)).bind fun i s => .ok (some i) s).bind fun h s => match x.1 with
    | .lst xs => .ok (.lst (cutL xs l h), true) s
    | .scr xs => .ok (.lst (cutL xs l h), true) s
    | .tup xs => .ok (.tup (cutL xs l h), false) s
    | _ => .stk
  | .skip, _, _ => .stk
  | .rev a, ρ, s => (ev fl true a ρ s).bind fun x s => match x.1 with
    | .lst xs => .ok (.lst xs.reverse, true) s
    | _ => .stk
  | .call _ g es, ρ, s => (evs fl false es ρ s).bind fun xs s => g xs s
  | .callk f ks g es kes, ρ, s => (evs fl false es ρ s).bind fun xs s => (evs fl false kes ρ s).bind fun ys s => (liftO (ordK f.ps ks xs ys) s).bind g
  | .bi f es, ρ, s => (evs fl true es ρ s).bind fun xs s => lift (biD f xs) s
  | .isi a t, ρ, s => (ev fl true a ρ s).bind fun x s => liftB (isiD x.1 t) s
  | .isi2 a t u, ρ, s => (ev fl true a ρ s).bind fun x s => liftB ((isiD x.1 t).bind fun p => (isiD x.1 u).map (p || ·)) s
  | .fld a f, ρ, s => (ev fl false a ρ s).bind fun x s => match x.1 with
    | .ins c fs => liftO (((ixStr f (fl c)).bind fun j => fs[j]?).map (·, false)) s
    | _ => .stk
  | .lc el t it cs own, ρ, s => (ev fl true it ρ s).bind fun x s => match itemsOf x.1 with
    | some xs => lcRun t (fun ρ s => evt fl cs ρ s) (fun ρ s => ev fl false el ρ s) (wipeE ρ own) xs [] s
    | none => .stk
  | .rng1 a, ρ, s => (intOf (ev fl false a ρ s)).bind fun i s => if rngOk i then .ok (.lst (intsUp 0 i.toNat), false) s else .stk
  | .rng2 a b, ρ, s => (intOf (ev fl false a ρ s)).bind fun i s => (intOf (ev fl false b ρ s)).bind fun j s => if rngOk i && rngOk j then .ok (.lst (intsUp i (j - i).toNat), false) s else .stk
  | .bix get a i, ρ, s => (ev fl true a ρ s).bind fun x s => (intOf (ev fl false i ρ s)).bind fun k s => match x.1 with
    | .box n => liftO (((s[n]?).bind fun j => atD (get j) k).map (·, false)) s
    | _ => .stk
  | .xf i _ f, ρ, s => match ρ[i]? with
    | some (.xc c fs) => liftO (((ixStr f (fl c)).bind fun j => fs[j]?).map (·, false)) s
    | _ => .stk
  | .rpe a b, ρ, s => (ev fl true a ρ s).bind fun x s => if rpOk x.1 then (ev fl true b ρ s).bind fun y s => liftB (if rpOk y.1 then some (decide ((toPy x.1).shown = (toPy y.1).shown)) else none) s else .stk
def evs (fl : Flds) (r : Bool) : Es J → Env → List J → R J (List D)
  | .nil, _, s => .ok [] s
  | .cons e es, ρ, s => (ev fl r e ρ s).bind fun x s => (evs fl r es ρ s).bind fun xs s => .ok (x.1 :: xs) s
/-- a and b and .., a or b or .. -/
def evb (fl : Flds) (o : BoolOp) : Es J → Env → List J → R J (D × Bool)
  | .nil, _, _ => .stk
  | .cons a .nil, ρ, s => (ev fl false a ρ s).bind fun x s => .ok (x.1, false) s
  | .cons a (.cons b r), ρ, s => (boolOf (ev fl false a ρ s)).bind fun k s => match o with
    | .And => if k then evb fl o (.cons b r) ρ s else .ok (.bl false, false) s
    | .Or => if k then .ok (.bl true, false) s else evb fl o (.cons b r) ρ s
/-- a clause's tests: none or one -/
def evt (fl : Flds) : Es J → Env → List J → R J Bool
  | .nil, _, s => .ok true s
  | .cons e .nil, ρ, s => boolOf (ev fl false e ρ s)
  | .cons _ (.cons _ _), _, _ => .stk
end

/-! ### statements -/
mutual
inductive Sm (J : Type) where
  | asg (t : Tg) (e : E J)
  | par (i : Nat) (x : Str) (j : Nat) (y : Str) (es : Es J)
  | exp (e : E J)
  | ret (e : E J)
  | ite (c : E J) (a b : Sms J)
  | loop (t : Tg) (it : E J) (b : Sms J)
  | whl (fuel : Env → Nat) (c : E J) (b : Sms J)
  | brk | cnt | pas
  | rse (x : Str) (es : Es J)
  | try1 (b : Sms J) (x : Str) (yes : Str → Bool) (i : Nat) (n : Str) (hd : Sms J)
  | try0 (b : Sms J) (x : Str) (yes : Str → Bool) (hd : Sms J)
  | bset (set : J → Int → D → Option J) (a k e : E J)
  | asgo (i : Nat) (x : Str) (e : E J)
  | app (i : Nat) (x : Str) (e : E J)
inductive Sms (J : Type) where
  | nil | cons (a : Sm J) (r : Sms J)
  | rel (i : Nat) (r : Sms J)
end
/-- how a statement ends -/
inductive Ot (J : Type) where
  | nx (ρ : Env) (s : List J) | ret (x : D × Bool) (s : List J) | brk (ρ : Env) (s : List J) | cnt (ρ : Env) (s : List J) | exc (c : Str) (fs : List D) (ρ : Env) (s : List J) | stk
def liftE {α : Type} (r : R J α) (ρ : Env) (k : α → List J → Ot J) : Ot J := match r with
  | .ok a s => k a s
  | .exc c fs s => .exc c fs ρ s
  | .stk => .stk
def Ot.then (r : Ot J) (k : Env → List J → Ot J) : Ot J := match r with
  | .nx ρ s => k ρ s
  | r => r
/-- a loop over these, from here on -/
def loopRun (t : Tg) (body : Env → List J → Ot J) : List D → Env → List J → Ot J
  | [], ρ, s => .nx ρ s
  | d :: ds, ρ, s => match setTg t d ρ with
    | none => .stk
    | some ρ1 => match body ρ1 s with
      | .nx ρ2 s2 => loopRun t body ds ρ2 s2
      | .cnt ρ2 s2 => loopRun t body ds ρ2 s2
      | .brk ρ2 s2 => .nx ρ2 s2
      | r => r
def whlRun (test : Env → List J → R J Bool) (body : Env → List J → Ot J) : Nat → Env → List J → Ot J
  | 0, ρ, s => liftE (test ρ s) ρ fun b s => if b then .stk else .nx ρ s
  | n + 1, ρ, s => liftE (test ρ s) ρ fun b s => if b then (match body ρ s with
      | .nx ρ2 s2 => whlRun test body n ρ2 s2
      | .cnt ρ2 s2 => whlRun test body n ρ2 s2
      | .brk ρ2 s2 => .nx ρ2 s2
      | r => r) else .nx ρ s
def unXc : Slot → Slot
  | .xc _ _ => .no
  | x => x
def noXc (ρ : Env) : Env := ρ.map unXc
/-- the name of an except clause is gone behind it -/
def Ot.gone (i : Nat) (r : Ot J) : Ot J := match r with
  | .nx ρ s => .nx ((noXc ρ).set i .no) s
  | .brk ρ s => .brk ((noXc ρ).set i .no) s
  | .cnt ρ s => .cnt ((noXc ρ).set i .no) s
  | .exc _ _ _ _ => .stk
  | r => r
def Ot.calm (r : Ot J) : Ot J := match r with
  | .exc _ _ _ _ => .stk
  | r => r
mutual
def sv (fl : Flds) : Sm J → Env → List J → Ot J
  | .asg t e, ρ, s => liftE (ev fl false e ρ s) ρ fun x s => match setTg t x.1 ρ with
    | some ρ1 => .nx ρ1 s
    | none => .stk
  | .par i _ j _ es, ρ, s => liftE (evs fl false es ρ s) ρ fun xs s => match xs with
    | [a, b] => .nx ((ρ.set i (.sh a)).set j (.sh b)) s
    | _ => .stk
  | .exp e, ρ, s => liftE (ev fl false e ρ s) ρ fun _ s => .nx ρ s
  | .ret e, ρ, s => liftE (ev fl false e ρ s) ρ fun x s => .ret x s
  | .ite c a b, ρ, s => liftE (boolOf (ev fl false c ρ s)) ρ fun k s => if k then svs fl a ρ s else svs fl b ρ s
  | .loop t it b, ρ, s => liftE (ev fl false it ρ s) ρ fun x s => match itemsOf x.1 with
    | some ds => loopRun t (fun ρ s => svs fl b ρ s) ds ρ s
    | none => .stk
  | .whl fuel c b, ρ, s => whlRun (fun ρ s => boolOf (ev fl false c ρ s)) (fun ρ s => svs fl b ρ s) (fuel ρ) ρ s
  | .brk, ρ, s => .brk ρ s
  | .cnt, ρ, s => .cnt ρ s
  | .pas, ρ, s => .nx ρ s
  | .rse x es, ρ, s => liftE (evs fl false es ρ s) ρ fun xs s => .exc x xs.reverse ρ s
  | .try1 b _ yes i _ hd, ρ, s => match svs fl b ρ s with
    | .exc c fs ρ2 s2 => if yes c then (svs fl hd (ρ2.set i (.xc c fs)) s2).gone i else .exc c fs ρ2 s2
    | r => r
  | .try0 b _ yes hd, ρ, s => match svs fl b ρ s with
    | .exc c fs ρ2 s2 => if yes c then (svs fl hd ρ2 s2).calm else .exc c fs ρ2 s2
    | r => r
  | .bset set a k e, ρ, s => liftE (ev fl false e ρ s) ρ fun y s => liftE (ev fl true a ρ s) ρ fun x s => liftE (intOf (ev fl false k ρ s)) ρ fun i s => match x.1 with
    | .box n => match (s[n]?).bind fun j => set j i y.1 with
      | some j' => .nx ρ (s.set n j')
      | none => .stk
    | _ => .stk
  | .asgo i _ e, ρ, s => liftE (ev fl false e ρ s) ρ fun x s => match x with
    | (.lst ds, true) => .nx (ρ.set i (.ow ds)) s
    | _ => .stk
  | .app i _ e, ρ, s => liftE (ev fl false e ρ s) ρ fun x s => match ρ[i]? with
    | some (.ow ds) => if ds.length < 16777216 then .nx (ρ.set i (.ow (ds ++ [x.1]))) s else .stk
    | _ => .stk
def svs (fl : Flds) : Sms J → Env → List J → Ot J
  | .nil, ρ, s => .nx ρ s
  | .cons a r, ρ, s => (sv fl a ρ s).then fun ρ s => svs fl r ρ s
  | .rel i r, ρ, s => match ρ[i]? with
    | some (.ow ds) => svs fl r (ρ.set i (.sh (.lst ds))) s
    | _ => .stk
end
/-- a def: its arguments, how many names; what it gives -/
def defn (fl : Flds) (n : Nat) (b : Sms J) : Fn J := fun ds s => match svs fl b (ds.map .sh ++ List.replicate (n - ds.length) .no) s with
  | .ret x s => .ok x s
  | .nx _ s => .ok (.non, false) s
  | .exc c fs _ s => .exc c fs s
  | _ => .stk
end DL

set_option Elab.async false
set_option linter.all false
set_option maxRecDepth 100000
/-! The data layer, part b: data in the abstract heap, growth of the heap, what is wanted of a run. -/
namespace DL
open PySem PySem.Spec PyProof.Rows L2
abbrev St := L2.St

/-- what is known of the text: the written part, the own classes' places, their fields -/
structure Gs where
  K : PySem.W.Frag
  ca : Str → Option Addr
  fl : Flds
  xa : Str → Option Addr
/-- the boxes: their addresses, all that belongs to each -/
structure Ws where
  hb : List Addr
  fps : List (List Addr)
def Ws.inJ (w : Ws) (b : Addr) : Prop := ∃ fp ∈ w.fps, b ∈ fp
def Ban (O : Addr → Prop) (w : Ws) (b : Addr) : Prop := O b ∨ w.inJ b

/-- a tuple: one that was made, or one of the text -/
def TupAt (G : Gs) (O : Addr → Prop) (w : Ws) (H : Hp) (a : Addr) (vs : List V) : Prop := (H a = some (.tup vs) ∧ ¬ Ban O w a) ∨
  ∃ (o : Obj) (its : Array Value) (n : Nat), G.K.lookup a = some o ∧ o.cls = .type "tuple" ∧ o.data = .seq its n ∧ its.size ≤ sizeLine ∧ Vals vs its.toList
theorem TupAt.sq {G : Gs} {O : Addr → Prop} {w : Ws} {H : Hp} {a : Addr} {vs : List V} (h : TupAt G O w H a vs) : SqT G.K H a vs := h.elim (fun z => .inl (.inl z.1)) .inr
/-- the list that the law is handed -/
def ScrAt (G : Gs) (O : Addr → Prop) (w : Ws) (H : Hp) (a : Addr) (vs : List V) : Prop := ((∃ o, H a = some (.frz o (.lst vs))) ∧ ¬ Ban O w a) ∨
  ∃ (o : Obj) (its : Array Value) (n : Nat), G.K.lookup a = some o ∧ o.cls = .type "list" ∧ o.dict = none ∧ o.data = .seq its n ∧ its.size ≤ sizeLine ∧ Vals vs its.toList
theorem ScrAt.sq {G : Gs} {O : Addr → Prop} {w : Ws} {H : Hp} {a : Addr} {vs : List V} (h : ScrAt G O w H a vs) : SqL G.K H a vs := h.elim (fun z => .inl (.inr z.1)) .inr
mutual
/-- a value is this data; nothing of it lies where O or a box is -/
def Rep (G : Gs) (O : Addr → Prop) (w : Ws) (H : Hp) : D → V → Prop
  | .non, v => v = .non
  | .bl b, v => v = .bl b
  | .int i, v => v = .int i
  | .str x, v => v = .str x
  | .tup ds, v => ∃ a vs, v = .ref a ∧ TupAt G O w H a vs ∧ Reps G O w H ds vs
  | .lst ds, v => ∃ a vs, v = .ref a ∧ H a = some (.lst vs) ∧ ¬ Ban O w a ∧ Reps G O w H ds vs
  | .scr ds, v => ∃ a vs, v = .ref a ∧ ScrAt G O w H a vs ∧ Reps G O w H ds vs
  | .ins c fs, v => ∃ a C dx vs, v = .ref a ∧ G.ca c = some C ∧ H a = some (.ins C dx ((G.fl c).zip vs)) ∧ ¬ Ban O w a ∧ (G.fl c).length = vs.length ∧ Reps G O w H fs vs
  | .box k, v => ∃ a, w.hb[k]? = some a ∧ v = .ref a
def Reps (G : Gs) (O : Addr → Prop) (w : Ws) (H : Hp) : List D → List V → Prop
  | [], vs => vs = []
  | d :: ds, vs => ∃ v r, vs = v :: r ∧ Rep G O w H d v ∧ Reps G O w H ds r
end

section
variable {G : Gs} {O O' : Addr → Prop} {w w' : Ws} {H H' : Hp}
/-- what stood and was not forbidden stands and is not forbidden -/
structure Le (O : Addr → Prop) (w : Ws) (H : Hp) (O' : Addr → Prop) (w' : Ws) (H' : Hp) : Prop where
  hb : ∀ (i : Nat) (a : Addr), w.hb[i]? = some a → w'.hb[i]? = some a
  st : ∀ b o, H b = some o → ¬ Ban O w b → H' b = some o ∧ ¬ Ban O' w' b
mutual
theorem Rep.le (l : Le O w H O' w' H') : ∀ (d : D) (v : V), Rep G O w H d v → Rep G O' w' H' d v
  | .non, _, h => h
  | .bl _, _, h => h
  | .int _, _, h => h
  | .str _, _, h => h
  | .tup ds, v, h => by
    obtain ⟨a, vs, e, ha, r⟩ := h
    exact ⟨a, vs, e, ha.imp (fun z => l.st _ _ z.1 z.2) id, Reps.le l ds vs r⟩
  | .lst ds, v, h => by
    obtain ⟨a, vs, e, ha, nb, r⟩ := h
    obtain ⟨h1, h2⟩ := l.st _ _ ha nb
    exact ⟨a, vs, e, h1, h2, Reps.le l ds vs r⟩
  | .scr ds, v, h => by
    obtain ⟨a, vs, e, ha, r⟩ := h
    exact ⟨a, vs, e, ha.imp (fun ⟨⟨o, h1⟩, nb⟩ => ⟨⟨o, (l.st _ _ h1 nb).1⟩, (l.st _ _ h1 nb).2⟩) id, Reps.le l ds vs r⟩
  | .ins c fs, v, h => by
    obtain ⟨a, C, dx, vs, e, hc, ha, nb, hl, r⟩ := h
    obtain ⟨h1, h2⟩ := l.st _ _ ha nb
    exact ⟨a, C, dx, vs, e, hc, h1, h2, hl, Reps.le l fs vs r⟩
  | .box k, v, h => by
    obtain ⟨a, ha, e⟩ := h
    exact ⟨a, l.hb _ _ ha, e⟩
theorem Reps.le (l : Le O w H O' w' H') : ∀ (ds : List D) (vs : List V), Reps G O w H ds vs → Reps G O' w' H' ds vs
  | [], _, h => h
  | d :: ds, vs, h => by
    obtain ⟨v, r, e, h1, h2⟩ := h
    exact ⟨v, r, e, Rep.le l d v h1, Reps.le l ds r h2⟩
end
theorem Reps.nil_iff {vs : List V} : Reps G O w H [] vs ↔ vs = [] := Iff.rfl
theorem Reps.cons {d : D} {ds : List D} {v : V} {vs : List V} (h : Rep G O w H d v) (h2 : Reps G O w H ds vs) : Reps G O w H (d :: ds) (v :: vs) := ⟨v, vs, rfl, h, h2⟩
theorem Reps.length : ∀ {ds : List D} {vs : List V}, Reps G O w H ds vs → ds.length = vs.length
  | [], _, h => by cases (show _ = _ from h); rfl
  | d :: ds, vs, h => by
    obtain ⟨v, r, rfl, _, h2⟩ := h
    rw [List.length_cons, List.length_cons, Reps.length h2]
theorem Reps.get : ∀ {ds : List D} {vs : List V} {i : Nat} {d : D}, Reps G O w H ds vs → ds[i]? = some d → ∃ v, vs[i]? = some v ∧ Rep G O w H d v
  | [], _, i, d, _, e => by simp at e
  | d0 :: ds, vs, 0, d, h, e => by
    obtain ⟨v, r, rfl, h1, _⟩ := h
    have e' : d0 = d := by simpa using e
    subst e'
    exact ⟨v, rfl, h1⟩
  | d0 :: ds, vs, i + 1, d, h, e => by
    obtain ⟨v, r, rfl, _, h2⟩ := h
    exact Reps.get (i := i) h2 (by simpa using e)
theorem Reps.back : ∀ {ds : List D} {vs : List V} {i : Nat} {v : V}, Reps G O w H ds vs → vs[i]? = some v → ∃ d, ds[i]? = some d ∧ Rep G O w H d v := fun {ds vs i v} h e => by
  have hl := h.length
  have hi : i < ds.length := by rw [hl]; exact (List.getElem?_eq_some_iff.mp e).1
  obtain ⟨v', e', r⟩ := h.get (List.getElem?_eq_getElem hi)
  rw [e] at e'; cases e'
  exact ⟨_, List.getElem?_eq_getElem hi, r⟩
theorem Reps.append : ∀ {ds es : List D} {vs us : List V}, Reps G O w H ds vs → Reps G O w H es us → Reps G O w H (ds ++ es) (vs ++ us)
  | [], _, _, _, h, h2 => by cases (show _ = _ from h); exact h2
  | d :: ds, es, vs, us, h, h2 => by
    obtain ⟨v, r, rfl, h1, h3⟩ := h
    exact ⟨v, r ++ us, rfl, h1, Reps.append h3 h2⟩
theorem Reps.take : ∀ {ds : List D} {vs : List V} (n : Nat), Reps G O w H ds vs → Reps G O w H (ds.take n) (vs.take n)
  | [], _, n, h => by cases (show _ = _ from h); simp; exact rfl
  | _ :: _, _, 0, _ => rfl
  | d :: ds, vs, n + 1, h => by
    obtain ⟨v, r, rfl, h1, h3⟩ := h
    exact ⟨v, r.take n, rfl, h1, Reps.take n h3⟩
theorem Reps.drop : ∀ {ds : List D} {vs : List V} (n : Nat), Reps G O w H ds vs → Reps G O w H (ds.drop n) (vs.drop n)
  | [], _, n, h => by cases (show _ = _ from h); simp; exact rfl
  | _ :: _, _, 0, h => h
  | d :: ds, vs, n + 1, h => by
    obtain ⟨v, r, rfl, h1, h3⟩ := h
    exact Reps.drop n h3
theorem Reps.one {d : D} {v : V} (h : Rep G O w H d v) : Reps G O w H [d] [v] := ⟨v, [], rfl, h, rfl⟩
theorem Reps.reverse : ∀ {ds : List D} {vs : List V}, Reps G O w H ds vs → Reps G O w H ds.reverse vs.reverse
  | [], _, h => by cases (show _ = _ from h); exact rfl
  | d :: ds, vs, h => by
    obtain ⟨v, r, rfl, h1, h3⟩ := h
    rw [List.reverse_cons, List.reverse_cons]
    exact Reps.append (Reps.reverse h3) (Reps.one h1)
theorem Rep.tup {a : Addr} {vs : List V} {ds : List D} (h : H a = some (.tup vs)) (nb : ¬ Ban O w a) (r : Reps G O w H ds vs) : Rep G O w H (.tup ds) (.ref a) := ⟨a, vs, rfl, .inl ⟨h, nb⟩, r⟩
theorem Rep.lst {a : Addr} {vs : List V} {ds : List D} (h : H a = some (.lst vs)) (nb : ¬ Ban O w a) (r : Reps G O w H ds vs) : Rep G O w H (.lst ds) (.ref a) := ⟨a, vs, rfl, h, nb, r⟩
end

/-- how a box's state lies in the heap: at the address, with all that belongs to it; B: what its data must keep clear of -/
structure Jt (J : Type) where
  rep : (Addr → Prop) → Hp → Addr → J → List Addr → Prop
  has : ∀ {B H a j fp}, rep B H a j fp → a ∈ fp ∧ ∀ b ∈ fp, ∃ xs, H b = some (.lst xs)
  fr : ∀ {B B' H H' a j fp}, rep B H a j fp → (∀ b o, H b = some o → ¬ B b → H' b = some o ∧ ¬ B' b) → (∀ b ∈ fp, H' b = H b) → rep B' H' a j fp

section
variable {J : Type} (T : Jt J)
structure JOk (O : Addr → Prop) (H : Hp) (w : Ws) (s : List J) : Prop where
  l1 : w.hb.length = s.length
  l2 : w.fps.length = s.length
  at_ : ∀ (k : Nat) a fp j, w.hb[k]? = some a → w.fps[k]? = some fp → s[k]? = some j → T.rep (Ban O w) H a j fp
  ap : ∀ (k l : Nat) fp fp' b, w.fps[k]? = some fp → w.fps[l]? = some fp' → b ∈ fp → b ∈ fp' → k = l
/-- the heap has grown; boxes may have changed, new ones come -/
structure Go (O : Addr → Prop) (H : Hp) (w : Ws) (H' : Hp) (w' : Ws) (s' : List J) : Prop where
  hb : ∀ (i : Nat) (a : Addr), w.hb[i]? = some a → w'.hb[i]? = some a
  st : ∀ b o, H b = some o → ¬ w.inJ b → H' b = some o
  al : ∀ b, H b ≠ none → H' b ≠ none
  nw : ∀ b, w'.inJ b → w.inJ b ∨ H b = none
  kp : ∀ b, w.inJ b → w'.inJ b ∨ H' b ≠ none
  jok : JOk T O H' w' s'
end
section
variable {J : Type} {T : Jt J} {G : Gs} {O O' : Addr → Prop} {w w1 w2 : Ws} {H H1 H2 : Hp} {s s1 s2 : List J}
theorem JOk.alloc (j : JOk T O H w s) {b : Addr} (h : w.inJ b) : ∃ xs, H b = some (.lst xs) := by
  obtain ⟨fp, h1, h2⟩ := h
  obtain ⟨k, hk, e⟩ := List.getElem_of_mem h1
  have hks : k < s.length := by rw [← j.l2]; exact hk
  have hkh : k < w.hb.length := by rw [j.l1]; exact hks
  have r := j.at_ k w.hb[k] fp s[k] (List.getElem?_eq_getElem hkh) (by rw [List.getElem?_eq_getElem hk, e]) (List.getElem?_eq_getElem hks)
  exact (T.has r).2 b h2
theorem Go.refl (j : JOk T O H w s) : Go T O H w H w s := ⟨fun _ _ h => h, fun _ _ h _ => h, fun _ h => h, fun _ h => .inl h, fun _ h => .inl h, j⟩
theorem Go.trans (a : Go T O H w H1 w1 s1) (b : Go T O H1 w1 H2 w2 s2) : Go T O H w H2 w2 s2 where
  hb := fun i x h => b.hb i x (a.hb i x h)
  st := fun c o h n => b.st c o (a.st c o h n) fun z => (a.nw c z).elim n fun q => by rw [h] at q; cases q
  al := fun c h => b.al c (a.al c h)
  nw := fun c h => (b.nw c h).elim (a.nw c) fun q => .inr (by
    cases e : H c with
    | none => rfl
    | some o => exact absurd q (a.al c (by rw [e]; exact fun z => nomatch z)))
  kp := fun c h => (a.kp c h).elim (b.kp c) fun q => .inr (b.al c q)
  jok := b.jok
/-- a new object -/
theorem JOk.new (j : JOk T O H w s) {p : Addr} {o : HO} (hp : H p = none) : JOk T O (upd H p o) w s where
  l1 := j.l1
  l2 := j.l2
  at_ := fun k a fp x h1 h2 h3 => T.fr (j.at_ k a fp x h1 h2 h3) (fun b u e n => ⟨by rw [upd_ne (ne_of_none e hp)]; exact e, n⟩) fun b hb => by
    obtain ⟨xs, e⟩ := (T.has (j.at_ k a fp x h1 h2 h3)).2 b hb
    exact upd_ne (ne_of_none e hp)
  ap := j.ap
/-- a new place is clear of the boxes' data -/
theorem JOk.newO (j : JOk T O H w s) {p : Addr} {o : HO} (hp : H p = none) : JOk T (fun b => O b ∨ b = p) (upd H p o) w s where
  l1 := j.l1
  l2 := j.l2
  at_ := fun k a fp x h1 h2 h3 => T.fr (j.at_ k a fp x h1 h2 h3) (fun b u e n => ⟨by rw [upd_ne (ne_of_none e hp)]; exact e, fun z => z.elim (fun y => y.elim (fun q => n (.inl q)) (fun q => ne_of_none e hp q)) (fun q => n (.inr q))⟩) fun b hb => by
    obtain ⟨xs, e⟩ := (T.has (j.at_ k a fp x h1 h2 h3)).2 b hb
    exact upd_ne (ne_of_none e hp)
  ap := j.ap
theorem JOk.mono (j : JOk T O H w s) (h : ∀ b, O' b → O b) : JOk T O' H w s where
  l1 := j.l1
  l2 := j.l2
  at_ := fun k a fp x h1 h2 h3 => T.fr (j.at_ k a fp x h1 h2 h3) (fun b u e n => ⟨e, fun z => n (z.imp (h b) id)⟩) fun b hb => rfl
  ap := j.ap
theorem Go.mono (g : Go T O H w H1 w1 s1) (h : ∀ b, O' b → O b) : Go T O' H w H1 w1 s1 := ⟨g.hb, g.st, g.al, g.nw, g.kp, g.jok.mono h⟩
theorem Go.new (j : JOk T O H w s) {p : Addr} {o : HO} (hp : H p = none) : Go T O H w (upd H p o) w s where
  hb := fun _ _ h => h
  st := fun b u h _ => by rw [upd_ne (ne_of_none h hp)]; exact h
  al := fun b h => by
    by_cases e : b = p
    · rw [e, upd_same]; exact fun z => nomatch z
    · rw [upd_ne e]; exact h
  nw := fun _ h => .inl h
  kp := fun _ h => .inl h
  jok := j.new hp
/-- O lies within what is allocated, apart from the boxes -/
structure OOk (O : Addr → Prop) (w : Ws) (H : Hp) : Prop where
  al : ∀ b, O b → H b ≠ none
  nj : ∀ b, O b → ¬ w.inJ b
theorem OOk.go (o : OOk O w H) (g : Go T O H w H1 w1 s1) : OOk O w1 H1 :=
  ⟨fun b h => g.al b (o.al b h), fun b h z => (g.nw b z).elim (o.nj b h) (o.al b h)⟩
theorem Go.le (g : Go T O H w H1 w1 s1) : Le O w H O w1 H1 where
  hb := g.hb
  st := fun b o h n => ⟨g.st b o h fun z => n (.inr z), fun z => z.elim (fun q => n (.inl q)) fun q => (g.nw b q).elim (fun y => n (.inr y)) fun y => by rw [h] at y; cases y⟩
/-- a place that was free is not forbidden -/
theorem OOk.free (o : OOk O w H) (j : JOk T O H w s) {p : Addr} (hp : H p = none) : ¬ Ban O w p := fun z => z.elim (fun q => o.al p q hp) fun q => by
  obtain ⟨xs, e⟩ := j.alloc q
  rw [hp] at e; cases e
/-- a new list that nobody else holds -/
def Own (T : Jt J) (G : Gs) (O : Addr → Prop) (x : D × Bool) (H H' : Hp) (w' : Ws) (s' : List J) (v : V) : Prop := x.2 = true → ∃ a vs ds, x.1 = .lst ds ∧ v = .ref a ∧ H a = none ∧ H' a = some (.lst vs) ∧ ¬ w'.inJ a ∧ JOk T (fun b => O b ∨ b = a) H' w' s' ∧ Reps G (fun b => O b ∨ b = a) w' H' ds vs
theorem Own.no {d : D} {H H' : Hp} {w' : Ws} {s' : List J} {v : V} : Own T G O (d, false) H H' w' s' v := fun z => nomatch z
theorem Own.go {x : D × Bool} (o : Own T G O x H1 H2 w2 s2 v) (g : Go T O H w H1 w1 s1) : Own T G O x H H2 w2 s2 v := fun z => by
  obtain ⟨a, vs, ds, e0, e, h1, h2⟩ := o z
  refine ⟨a, vs, ds, e0, e, ?_, h2⟩
  cases q : H a with
  | none => rfl
  | some x => exact absurd h1 (g.al a (by rw [q]; exact fun y => nomatch y))
theorem le_newO {O : Addr → Prop} {w : Ws} {H : Hp} {p : Addr} {o : HO} (hp : H p = none) : Le O w H (fun b => O b ∨ b = p) w (upd H p o) :=
  ⟨fun _ _ h => h, fun b u h n => ⟨by rw [upd_ne (ne_of_none h hp)]; exact h, fun z => z.elim (fun y => y.elim (fun q => n (.inl q)) (fun q => ne_of_none h hp q)) (fun q => n (.inr q))⟩⟩

/-- an own error, by its class's word and its fields -/
def ExcR (G : Gs) (O : Addr → Prop) (w : Ws) (H : Hp) (c : Str) (fs : List D) (cls : Value) (dd : Option Addr) : Prop :=
  ∃ C d vs, G.xa c = some C ∧ cls = .ref C ∧ dd = some d ∧ H d = some (.xd ((G.fl c).zip vs)) ∧ ¬ Ban O w d ∧ (G.fl c).length = vs.length ∧ Reps G O w H fs vs
theorem ExcR.le {c : Str} {fs : List D} {cls : Value} {dd : Option Addr} (l : Le O w H O' w1 H1) (h : ExcR G O w H c fs cls dd) : ExcR G O' w1 H1 c fs cls dd := by
  obtain ⟨C, d, vs, a, b, e, f, n, g, r⟩ := h
  obtain ⟨q1, q2⟩ := l.st _ _ f n
  exact ⟨C, d, vs, a, b, e, q1, q2, g, r.le l⟩

/-- as Rep, but of a value that is only looked at: a list of the def's own may be meant -/
def Rp (G : Gs) (O : Addr → Prop) (w : Ws) (H : Hp) (rd : Bool) (d : D) (v : V) : Prop := match rd, d with
  | true, .lst ds => ∃ a vs, v = .ref a ∧ H a = some (.lst vs) ∧ ¬ w.inJ a ∧ Reps G O w H ds vs
  | _, d => Rep G O w H d v
theorem Rep.rp {d : D} {v : V} (h : Rep G O w H d v) (rd : Bool) : Rp G O w H rd d v := by
  cases rd with
  | false => cases d <;> exact h
  | true =>
    cases d with
    | lst ds =>
      obtain ⟨a, vs, e, ha, nb, r⟩ := h
      exact ⟨a, vs, e, ha, fun z => nb (.inr z), r⟩
    | _ => exact h
theorem Rp.rep {d : D} {v : V} (h : Rp G O w H false d v) : Rep G O w H d v := by cases d <;> exact h
theorem Rp.lst {ds : List D} {v : V} {rd : Bool} (h : Rp G O w H rd (.lst ds) v) : ∃ a vs, v = .ref a ∧ H a = some (.lst vs) ∧ ¬ w.inJ a ∧ Reps G O w H ds vs := by
  cases rd with
  | true => exact h
  | false =>
    obtain ⟨a, vs, e, ha, nb, r⟩ := (show Rep G O w H (.lst ds) v from h)
    exact ⟨a, vs, e, ha, fun z => nb (.inr z), r⟩
theorem Rp.non {d : D} {v : V} {rd : Bool} (h : Rp G O w H rd d v) (hd : ∀ ds, d ≠ .lst ds) : Rep G O w H d v := by
  cases rd with
  | false => exact h.rep
  | true => cases d with
    | lst ds => exact absurd rfl (hd ds)
    | _ => exact h
theorem Rp.go {d : D} {v : V} {rd : Bool} (h : Rp G O w H rd d v) (g : Go T O H w H1 w1 s1) : Rp G O w1 H1 rd d v := by
  cases d with
  | lst ds =>
    cases rd with
    | false => exact Rep.le (w := w) (H := H) g.le _ v h
    | true =>
      obtain ⟨a, vs, e, ha, nb, r⟩ := h.lst
      exact ⟨a, vs, e, g.st _ _ ha nb, fun z => (g.nw a z).elim nb (fun q => by rw [ha] at q; cases q), r.le g.le⟩
  | _ => exact (Rep.le g.le _ v (h.non fun _ z => nomatch z)).rp rd
/-- what has items, as the rules ask for it -/
theorem Rp.items {d : D} {ds : List D} {v : V} {rd : Bool} (h : Rp G O w H rd d v) (e : itemsOf d = some ds) : ∃ a vs, v = .ref a ∧ (SqL G.K H a vs ∨ SqT G.K H a vs) ∧ Reps G O w H ds vs := by
  cases d with
  | lst xs =>
    cases e
    obtain ⟨a, vs, ev, ha, _, r⟩ := h.lst
    exact ⟨a, vs, ev, .inl (.inl (.inl ha)), r⟩
  | scr xs =>
    cases e
    obtain ⟨a, vs, ev, ha, r⟩ := (h.non fun _ z => nomatch z)
    exact ⟨a, vs, ev, .inl ha.sq, r⟩
  | tup xs =>
    cases e
    obtain ⟨a, vs, ev, ha, r⟩ := (h.non fun _ z => nomatch z)
    exact ⟨a, vs, ev, .inr ha.sq, r⟩
  | _ => cases e
def RpL (G : Gs) (O : Addr → Prop) (w : Ws) (H : Hp) (rd : Bool) : List D → List V → Prop
  | [], vs => vs = []
  | d :: ds, vs => ∃ v r, vs = v :: r ∧ Rp G O w H rd d v ∧ RpL G O w H rd ds r
theorem RpL.reps : ∀ {ds : List D} {vs : List V}, RpL G O w H false ds vs → Reps G O w H ds vs
  | [], _, h => h
  | d :: ds, vs, ⟨v, r, e, h1, h2⟩ => ⟨v, r, e, h1.rep, h2.reps⟩
theorem Reps.rpl (rd : Bool) : ∀ {ds : List D} {vs : List V}, Reps G O w H ds vs → RpL G O w H rd ds vs
  | [], _, h => h
  | d :: ds, vs, ⟨v, r, e, h1, h2⟩ => ⟨v, r, e, h1.rp rd, h2.rpl rd⟩
theorem RpL.go {rd : Bool} (g : Go T O H w H1 w1 s1) : ∀ {ds : List D} {vs : List V}, RpL G O w H rd ds vs → RpL G O w1 H1 rd ds vs
  | [], _, h => h
  | d :: ds, vs, ⟨v, r, e, h1, h2⟩ => ⟨v, r, e, h1.go g, h2.go g⟩
theorem RpL.length {rd : Bool} : ∀ {ds : List D} {vs : List V}, RpL G O w H rd ds vs → ds.length = vs.length
  | [], _, h => by cases (show _ = _ from h); rfl
  | d :: ds, vs, ⟨v, r, e, h1, h2⟩ => by rw [e, List.length_cons, List.length_cons, h2.length]
theorem RpL.one {rd : Bool} {d : D} {vs : List V} (h : RpL G O w H rd [d] vs) : ∃ v, vs = [v] ∧ Rp G O w H rd d v := by
  obtain ⟨v, r, rfl, h1, h2⟩ := h
  cases (show _ = _ from h2)
  exact ⟨v, rfl, h1⟩
theorem RpL.two {rd : Bool} {d e : D} {vs : List V} (h : RpL G O w H rd [d, e] vs) : ∃ u v, vs = [u, v] ∧ Rp G O w H rd d u ∧ Rp G O w H rd e v := by
  obtain ⟨v, r, rfl, h1, h2⟩ := h
  obtain ⟨u, rfl, h3⟩ := h2.one
  exact ⟨v, u, rfl, h1, h3⟩

/-- what is wanted of a run: of its value, of its error -/
def Post (T : Jt J) (G : Gs) (W : WX) (σ : St) (O : Addr → Prop) (H : Hp) (w : Ws) (rd : Bool) (r : R J (D × Bool)) (Q : VK) : Prop := match r with
  | .ok x s' => ∀ v H' w', Go T O H w H' w' s' → Rp G O w' H' rd x.1 v → Own T G O x H H' w' s' v → Q v H'
  | .exc c fs s' => ∀ cls dd H' w', Go T O H w H' w' s' → ExcR G O w' H' c fs cls dd → W cls dd σ H'
  | .stk => False
def PostL (T : Jt J) (G : Gs) (W : WX) (σ : St) (O : Addr → Prop) (H : Hp) (w : Ws) (rd : Bool) (r : R J (List D)) (Q : List V → Hp → Prop) : Prop := match r with
  | .ok ds s' => ∀ vs H' w', Go T O H w H' w' s' → RpL G O w' H' rd ds vs → Q vs H'
  | .exc c fs s' => ∀ cls dd H' w', Go T O H w H' w' s' → ExcR G O w' H' c fs cls dd → W cls dd σ H'
  | .stk => False
/-- of a run whose value is no piece of the heap -/
def PostT {α : Type} (T : Jt J) (G : Gs) (W : WX) (σ : St) (O : Addr → Prop) (H : Hp) (w : Ws) (r : R J α) (Q : α → Hp → Prop) : Prop := match r with
  | .ok b s' => ∀ H' w', Go T O H w H' w' s' → Q b H'
  | .exc c fs s' => ∀ cls dd H' w', Go T O H w H' w' s' → ExcR G O w' H' c fs cls dd → W cls dd σ H'
  | .stk => False
variable {W : WX} {σ : St} {Q : VK} {α : Type} {rd rd' : Bool}
theorem Post.go {r : R J (D × Bool)} (h : Post T G W σ O H w rd r Q) (g : Go T O H w H1 w1 s1) : Post T G W σ O H1 w1 rd r Q := by
  cases r with
  | ok x s' => exact fun v H' w' g' rp ow => h v H' w' (g.trans g') rp (ow.go g)
  | exc c fs s' => exact fun cls dd H' w' g' rp => h cls dd H' w' (g.trans g') rp
  | stk => exact h
theorem PostL.go {r : R J (List D)} {Q : List V → Hp → Prop} (h : PostL T G W σ O H w rd r Q) (g : Go T O H w H1 w1 s1) : PostL T G W σ O H1 w1 rd r Q := by
  cases r with
  | ok x s' => exact fun v H' w' g' rp => h v H' w' (g.trans g') rp
  | exc c fs s' => exact fun cls dd H' w' g' rp => h cls dd H' w' (g.trans g') rp
  | stk => exact h
theorem PostT.go {α : Type} {r : R J α} {Q : α → Hp → Prop} (h : PostT T G W σ O H w r Q) (g : Go T O H w H1 w1 s1) : PostT T G W σ O H1 w1 r Q := by
  cases r with
  | ok x s' => exact fun H' w' g' => h H' w' (g.trans g')
  | exc c fs s' => exact fun cls dd H' w' g' rp => h cls dd H' w' (g.trans g') rp
  | stk => exact h
/-- one run behind another: from what is wanted of both to what is wanted of the first -/
theorem Post.bind {r : R J (D × Bool)} {f : D × Bool → List J → R J (D × Bool)} {Q1 : VK} (h : Post T G W σ O H w rd' (r.bind f) Q)
    (k : ∀ x s1 v H1 w1, Go T O H w H1 w1 s1 → Rp G O w1 H1 rd x.1 v → Own T G O x H H1 w1 s1 v → Post T G W σ O H1 w1 rd' (f x s1) Q → Q1 v H1) : Post T G W σ O H w rd r Q1 := by
  cases r with
  | ok x s' => exact fun v H' w' g' rp ow => k x s' v H' w' g' rp ow (Post.go (show Post T G W σ O H w rd' (f x s') Q from h) g')
  | exc c fs s' => exact h
  | stk => exact h
theorem Post.bindL {r : R J (D × Bool)} {f : D × Bool → List J → R J (List D)} {Q : List V → Hp → Prop} {Q1 : VK} (h : PostL T G W σ O H w rd' (r.bind f) Q)
    (k : ∀ x s1 v H1 w1, Go T O H w H1 w1 s1 → Rp G O w1 H1 rd x.1 v → PostL T G W σ O H1 w1 rd' (f x s1) Q → Q1 v H1) : Post T G W σ O H w rd r Q1 := by
  cases r with
  | ok x s' => exact fun v H' w' g' rp ow => k x s' v H' w' g' rp (PostL.go (show PostL T G W σ O H w rd' (f x s') Q from h) g')
  | exc c fs s' => exact h
  | stk => exact h
theorem Post.bindT {α : Type} {r : R J (D × Bool)} {f : D × Bool → List J → R J α} {Q : α → Hp → Prop} {Q1 : VK} (h : PostT T G W σ O H w (r.bind f) Q)
    (k : ∀ x s1 v H1 w1, Go T O H w H1 w1 s1 → Rp G O w1 H1 rd x.1 v → PostT T G W σ O H1 w1 (f x s1) Q → Q1 v H1) : Post T G W σ O H w rd r Q1 := by
  cases r with
  | ok x s' => exact fun v H' w' g' rp ow => k x s' v H' w' g' rp (PostT.go (show PostT T G W σ O H w (f x s') Q from h) g')
  | exc c fs s' => exact h
  | stk => exact h
theorem PostL.bind {r : R J (List D)} {f : List D → List J → R J (D × Bool)} {Q1 : List V → Hp → Prop} (h : Post T G W σ O H w rd' (r.bind f) Q)
    (k : ∀ x s1 v H1 w1, Go T O H w H1 w1 s1 → RpL G O w1 H1 rd x v → Post T G W σ O H1 w1 rd' (f x s1) Q → Q1 v H1) : PostL T G W σ O H w rd r Q1 := by
  cases r with
  | ok x s' => exact fun v H' w' g' rp => k x s' v H' w' g' rp (Post.go (show Post T G W σ O H w rd' (f x s') Q from h) g')
  | exc c fs s' => exact h
  | stk => exact h
theorem PostL.bindL {r : R J (List D)} {f : List D → List J → R J (List D)} {Q : List V → Hp → Prop} {Q1 : List V → Hp → Prop} (h : PostL T G W σ O H w rd' (r.bind f) Q)
    (k : ∀ x s1 v H1 w1, Go T O H w H1 w1 s1 → RpL G O w1 H1 rd x v → PostL T G W σ O H1 w1 rd' (f x s1) Q → Q1 v H1) : PostL T G W σ O H w rd r Q1 := by
  cases r with
  | ok x s' => exact fun v H' w' g' rp => k x s' v H' w' g' rp (PostL.go (show PostL T G W σ O H w rd' (f x s') Q from h) g')
  | exc c fs s' => exact h
  | stk => exact h
theorem PostT.bind {α : Type} {r : R J α} {f : α → List J → R J (D × Bool)} {Q1 : α → Hp → Prop} (h : Post T G W σ O H w rd' (r.bind f) Q)
    (k : ∀ b s1 H1 w1, Go T O H w H1 w1 s1 → Post T G W σ O H1 w1 rd' (f b s1) Q → Q1 b H1) : PostT T G W σ O H w r Q1 := by
  cases r with
  | ok x s' => exact fun H' w' g' => k x s' H' w' g' (Post.go (show Post T G W σ O H w rd' (f x s') Q from h) g')
  | exc c fs s' => exact h
  | stk => exact h
theorem PostT.bindT {α β : Type} {r : R J α} {f : α → List J → R J β} {Q : β → Hp → Prop} {Q1 : α → Hp → Prop} (h : PostT T G W σ O H w (r.bind f) Q)
    (k : ∀ b s1 H1 w1, Go T O H w H1 w1 s1 → PostT T G W σ O H1 w1 (f b s1) Q → Q1 b H1) : PostT T G W σ O H w r Q1 := by
  cases r with
  | ok x s' => exact fun H' w' g' => k x s' H' w' g' (PostT.go (show PostT T G W σ O H w (f x s') Q from h) g')
  | exc c fs s' => exact h
  | stk => exact h
/-- a test's bool, an int, from the value's run -/
theorem Post.toB {r : R J (D × Bool)} {Q : Bool → Hp → Prop} (h : PostT T G W σ O H w (boolOf r) Q) : Post T G W σ O H w rd r (fun v H' => ∃ k, v = .bl k ∧ Q k H') := by
  cases r with
  | ok x s' =>
    obtain ⟨d, u⟩ := x
    cases d with
    | bl b => exact fun v H' w' g' rp _ => ⟨b, rp.non (fun _ z => nomatch z), (show ∀ H' w', Go T O H w H' w' s' → Q b H' from h) H' w' g'⟩
    | _ => exact False.elim h
  | exc c fs s' => exact h
  | stk => exact h
theorem Post.toI {r : R J (D × Bool)} {Q : Int → Hp → Prop} (h : PostT T G W σ O H w (intOf r) Q) : Post T G W σ O H w rd r (fun v H' => ∃ k, v = .int k ∧ Q k H') := by
  cases r with
  | ok x s' =>
    obtain ⟨d, u⟩ := x
    cases d with
    | int b => exact fun v H' w' g' rp _ => ⟨b, rp.non (fun _ z => nomatch z), (show ∀ H' w', Go T O H w H' w' s' → Q b H' from h) H' w' g'⟩
    | _ => exact False.elim h
  | exc c fs s' => exact h
  | stk => exact h
/-- pure ends -/
theorem Post.okS {x : D × Bool} {s' : List J} (h : Post T G W σ O H w rd (.ok x s') Q) {v : V} (j : JOk T O H w s') (rp : Rp G O w H rd x.1 v) (hu : x.2 = false) : Q v H :=
  h v H w (Go.refl j) rp (fun z => by rw [hu] at z; cases z)
theorem Post.okN {x : D × Bool} {s' : List J} (h : Post T G W σ O H w rd (.ok x s') Q) {p : Addr} {o : HO} (j : JOk T O H w s') (hp : H p = none) (rp : Rep G O w (upd H p o) x.1 (.ref p)) (ow : Own T G O x H (upd H p o) w s' (.ref p)) : Q (.ref p) (upd H p o) :=
  h _ _ w (Go.new j hp) (rp.rp rd) ow
/-- a new list, a new tuple, of these data -/
theorem Post.newL {ds : List D} {u : Bool} {s' : List J} (h : Post T G W σ O H w rd (.ok (.lst ds, u) s') Q) (oo : OOk O w H) (j : JOk T O H w s') {vs : List V} (r : Reps G O w H ds vs) (p : Addr) (hp : H p = none) : Q (.ref p) (upd H p (.lst vs)) := by
  have nb := oo.free j hp
  refine h.okN j hp (Rep.lst upd_same nb (r.le (Go.new j hp).le)) fun _ => ⟨p, vs, ds, rfl, rfl, hp, upd_same, fun z => nb (.inr z), j.newO hp, r.le (le_newO hp)⟩
theorem Post.newT {ds : List D} {s' : List J} (h : Post T G W σ O H w rd (.ok (.tup ds, false) s') Q) (oo : OOk O w H) (j : JOk T O H w s') {vs : List V} (r : Reps G O w H ds vs) (p : Addr) (hp : H p = none) : Q (.ref p) (upd H p (.tup vs)) := by
  have nb := oo.free j hp
  exact h.okN j hp (Rep.tup upd_same nb (r.le (Go.new j hp).le)) Own.no
end
end DL

set_option Elab.async false
set_option linter.all false
set_option maxRecDepth 100000
/-! The data layer, part c: when a term of the small language is an expression of the text; what holds of a frame. -/
namespace DL
open PySem PySem.Spec PyProof.Rows L2
variable {J : Type}

/-! ### names by the scope -/
def visB (sc : Scope) (x : Str) : Bool := match sc.names.lookup x with
  | some .local => true | some .cell => true | some .free => true | _ => false
def locB (sc : Scope) (x : Str) : Bool := match sc.names.lookup x with
  | some .local => true | some .cell => true | _ => false
def lclB (sc : Scope) (x : Str) : Bool := match sc.names.lookup x with
  | some .local => true | _ => false
def glB (sc : Scope) (x : Str) : Bool := (match sc.names.lookup x with
  | some .globalImplicit => true | _ => false) && decide (x ≠ "__debug__")
def varB (sc : Scope) (N : List Str) (i : Nat) (x : Str) : Bool := decide (N[i]? = some x) && visB sc x && decide (x ≠ "__debug__") && decide (x ≠ "__classdict__")
theorem visB_vis {sc : Scope} {x : Str} (h : visB sc x = true) : Vis sc x := by
  unfold visB at h
  split at h <;> first | exact .inl (by assumption) | exact .inr (.inl (by assumption)) | exact .inr (.inr (by assumption)) | cases h
theorem locB_loc {sc : Scope} {x : Str} (h : locB sc x = true) : Loc sc x := by
  unfold locB at h
  split at h <;> first | exact .inl (by assumption) | exact .inr (by assumption) | cases h
theorem lclB_lcl {sc : Scope} {x : Str} (h : lclB sc x = true) : sc.names.lookup x = some .local := by
  unfold lclB at h
  split at h <;> first | assumption | cases h
theorem glB_gl {X : Cx} {x : Str} (h : glB X.env.scope x = true) : Gl X x ∧ (x == ("__debug__" : Str)) = false := by
  unfold glB at h
  rw [Bool.and_eq_true] at h
  obtain ⟨h1, h2⟩ := h
  refine ⟨?_, beq_eq_false_iff_ne.mpr (of_decide_eq_true h2)⟩
  split at h1
  · assumption
  · cases h1
/-- built-ins by name -/
def biNames : List Str := ["len", "abs", "int", "max", "min", "tuple", "list", "range", "isinstance", "bool", "str", "repr"]
def tyNames : List Str := ["int", "bool", "str", "tuple", "list"]

/-- no star, no set, no slice, no comprehension but a list's -/
def plE : Expr → Bool
  | .Starred _ _ => false | .Set _ _ _ => false | .Slice _ _ _ _ => false | .SetComp _ _ _ _ => false | .DictComp _ _ _ _ _ => false
  | _ => true
def notLc : Expr → Bool
  | .ListComp _ _ _ _ => false | _ => true
def notCall0 : Expr → Bool
  | .Call _ [] _ _ => false | _ => true
section
variable {e : Expr} {env : PySem.Env}
theorem pl_star (h : plE e = true) (es : List Expr) : starEach (e :: es) env = (false, eval e env) :: starEach es env := by
  cases e <;> first | rfl | cases h
theorem pl_folded (h : plE e = true) : ∀ x, foldedSetIterable e env x = pure x := by
  intro x
  cases e <;> first | rfl | cases h
theorem pl_marks (h : plE e = true) (op : CmpOp) : behindInMarks op e = false := by
  cases e <;> first | rfl | cases h
theorem pl_ix (h : plE e = true) : PlainIx e := by
  intro o i
  cases e <;> first | rfl | cases h
theorem pl_swaps (h : plE e = true) (h2 : notLc e = true) (t : Option Expr) (l : Nat) : swapsWith e t l env = pure false := by
  cases e <;> first | rfl | exact absurd h Bool.false_ne_true | exact absurd h2 Bool.false_ne_true
theorem nc_base {f : Str} (h : notCall0 e = true) : attributeBase e f env (eval e env) = eval e env := by
  cases e with
  | Call g as ks p =>
    cases as with
    | nil => cases h
    | cons a r => cases g <;> cases ks <;> rfl
  | _ => rfl
end

/-! ### matching -/
def Es.len : Es J → Nat
  | .nil => 0
  | .cons _ r => r.len + 1
def isVarE : E J → Bool
  | .var _ _ => true
  | _ => false
/-- a target; ow: the names that the frame at hand may store -/
def mtTs (sc : Scope) (N : List Str) : List (Nat × Str) → List Expr → Bool
  | [], [] => true
  | (i, x) :: r, .Name y _ :: es => decide (x = y) && decide (N[i]? = some x) && locB sc x && mtTs sc N r es
  | _, _ => false
def mtT (sc : Scope) (N : List Str) : Tg → Expr → Bool
  | .nm i x, .Name y _ => decide (x = y) && decide (N[i]? = some x) && locB sc x
  | .tp l, .Tuple es _ _ => mtTs sc N l es
  | _, _ => false
def tgIn (own : List (Str × Nat)) : Tg → Bool
  | .nm i x => decide ((x, i) ∈ own)
  | .tp l => l.all fun p => decide ((p.2, p.1) ∈ own)
/-- a term that may stand as a test (a conditional expression may not) -/
def tstOk : E J → Bool
  | .ife _ _ _ => false
  | .rpe _ _ => false
  | .not a => tstOk a
  | _ => true
def tstsOk : Es J → Bool
  | .nil => true
  | .cons e .nil => tstOk e
  | .cons _ (.cons _ _) => false
def tstsA : Es J → Bool
  | .nil => true
  | .cons e es => tstOk e && tstsA es
mutual
/-- the term is the expression; h: an exception is handled here; it: the expression is walked -/
def mt (h it : Bool) (sc : Scope) (N : List Str) : E J → Expr → Bool
  | .var i x, .Name y _ => decide (x = y) && varB sc N i x
  | .non, .Constant .none _ _ => true
  | .bl b, .Constant (.bool c) _ _ => decide (b = c)
  | .int i, .Constant (.int j) _ _ => decide (i = j)
  | .str x, .Constant (.str y) _ _ => decide (x = y)
  | .bin o a b, .BinOp x p y _ => decide (o = p) && mt h false sc N a x && mt h false sc N b y
  | .neg a, .UnaryOp .USub x _ => mt h false sc N a x
  | .not a, .UnaryOp .Not x _ => mt h false sc N a x
  | .cmp o a b, .Compare x [p] [y] _ => decide (o = p) && mt h false sc N a x && mt h false sc N b y
  | .chn o p a b c, .Compare x [o', p'] [y, z] _ => decide (o = o') && decide (p = p') && mt h false sc N a x && mt h false sc N b y && mt h false sc N c z
  | .bop o es, .BoolOp p xs _ => decide (o = p) && mts h sc N es xs && tstsA es && decide (0 < es.len)
  | .ife c a b, .IfExp x y z _ => tstOk c && mt h false sc N c x && mt h false sc N a y && mt h false sc N b z
  | .tup es, .Tuple xs _ _ => mts h sc N es xs
  | .lst es, .List xs _ => mts h sc N es xs
  | .sub a i, .Subscript x y _ => mt h false sc N a x && mt h false sc N i y
  | .slc a lo hi, .Subscript x (.Slice l u none _) _ => mt h false sc N a x &&
      (match l with | none => isSkip lo | some y => mt h false sc N lo y && !isSkip lo) && (match u with | none => isSkip hi | some y => mt h false sc N hi y && !isSkip hi)
  | .rev a, .Subscript x (.Slice none none (some (.UnaryOp .USub (.Constant (.int 1) _ _) _)) _) _ => mt h false sc N a x
  | .call f _ es, .Call (.Name y _) xs [] _ => decide (f.x = y) && glB sc f.x && mts h sc N es xs && decide (es.len = f.ps.length) && decide (0 < es.len)
  | .callk f ks _ es kes, .Call (.Name y _) xs kws _ => !h && decide (f.x = y) && glB sc f.x && mts h sc N es xs && mtk h sc N kes kws && decide (kws.map (·.arg) = ks.map some) && decide ((es.len, ks) ∈ f.kl)
  | .bi f es, .Call (.Name y _) xs [] _ => decide (f = y) && decide (f ∈ biFs) && glB sc f && mts h sc N es xs && decide (0 < es.len) && (!h || decide (f ≠ "max" ∧ f ≠ "min"))
  | .isi a t, .Call (.Name y _) [x, .Name z _] [] _ => decide (y = "isinstance") && glB sc y && mt h false sc N a x && decide (t = z) && glB sc t && decide (t ∈ tyNames)
  | .isi2 a t u, .Call (.Name y _) [x, .Tuple [.Name z _, .Name v _] _ _] [] _ => decide (y = "isinstance") && glB sc y && mt h false sc N a x && decide (t = z) && glB sc t && decide (u = v) && glB sc u && decide (t ∈ tyNames) && decide (u ∈ tyNames)
  | .fld a f, .Attribute x g _ => decide (f = g) && mt h false sc N a x && notCall0 x
  | .lc el t i cs own, .ListComp y [⟨tg, x, ifs, z⟩] scope _ => !h && decide (z = 0) && blkC N sc scope own && mtT scope N t tg && tgIn own t && mt h false (relS scope sc) N el y && mts h (relS scope sc) N cs ifs && tstsOk cs && mt h true sc N i x
  | .rng1 a, .Call (.Name y _) [x] [] _ => it && decide (y = "range") && glB sc y && mt h false sc N a x
  | .rng2 a b, .Call (.Name y _) [x, z] [] _ => it && !h && decide (y = "range") && glB sc y && mt h false sc N a x && mt h false sc N b z
  | .bix _ a i, .Subscript x y _ => mt h false sc N a x && mt h false sc N i y
  | .xf i x f, .Attribute (.Name y _) g _ => decide (x = y) && decide (f = g) && varB sc N i x
  | .rpe a b, .Compare (.Call (.Name u _) [x] [] _) [p] [.Call (.Name v _) [y] [] _] _ => !h && decide (p = .Eq) && decide (u = "repr") && decide (v = "repr") && glB sc "repr" && mt h false sc N a x && mt h false sc N b y
  | _, _ => false
def mts (h : Bool) (sc : Scope) (N : List Str) : Es J → List Expr → Bool
  | .nil, [] => true
  | .cons e es, x :: xs => mt h false sc N e x && mts h sc N es xs
  | _, _ => false
/-- keywords' values -/
def mtk (h : Bool) (sc : Scope) (N : List Str) : Es J → List Keyword → Bool
  | .nil, [] => true
  | .cons e es, ⟨_, x, _⟩ :: xs => mt h false sc N e x && mtk h sc N es xs
  | _, _ => false
end
theorem mt_pl {h it : Bool} {sc : Scope} {N : List Str} {e : E J} {a : Expr} (m : mt h it sc N e a = true) : plE a = true := by
  cases a with
  | Starred _ _ => cases e <;> simp [mt] at m
  | Set _ _ _ => cases e <;> simp [mt] at m
  | Slice _ _ _ _ => cases e <;> simp [mt] at m
  | SetComp _ _ _ _ => cases e <;> simp [mt] at m
  | DictComp _ _ _ _ _ => cases e <;> simp [mt] at m
  | _ => rfl
end DL

set_option Elab.async false
set_option linter.all false
set_option maxRecDepth 100000
set_option maxHeartbeats 2000000
/-! The data layer, part d: a frame's names; each construct of an expression. -/
namespace DL
open PySem PySem.Spec PyProof.Rows L2
variable {J : Type}

/-- a def's run: what does not change in it. O0, H0, w0: at its entry -/
structure Cf (J : Type) where
  T : Jt J
  G : Gs
  O0 : Addr → Prop
  H0 : Hp
  w0 : Ws
  xo : Option (Addr × Value × Option Addr) := none
def SlotOk (c : Cf J) (O : Addr → Prop) (w : Ws) (H : Hp) (ρ : Env) (σ : St) (i : Nat) : Slot → Prop
  | .no => True
  | .sh d => ∃ v, σ[i]? = some (some v) ∧ Rep c.G O w H d v
  | .ow ds => ∃ a vs, σ[i]? = some (some (.ref a)) ∧ H a = some (.lst vs) ∧ O a ∧ ¬ c.O0 a ∧ c.H0 a = none ∧ Reps c.G O w H ds vs ∧
      ∀ j es, j ≠ i → ρ[j]? = some (.ow es) → σ[j]? ≠ some (some (.ref a))
  | .xc cn fs => ∃ a cls d, c.xo = some (a, cls, d) ∧ σ[i]? = some (some (.ref a)) ∧ ExcR c.G O w H cn fs cls d
/-- what holds of a frame: its names' places, the heap, the boxes -/
structure EI (c : Cf J) (ρ : Env) (σ : St) (H : Hp) (w : Ws) (s : List J) (O : Addr → Prop) : Prop where
  go : Go c.T O c.H0 c.w0 H w s
  oo : OOk O w H
  o0 : ∀ b, c.O0 b → O b
  len : ρ.length = σ.length
  sl : ∀ i x, ρ[i]? = some x → SlotOk c O w H ρ σ i x
section
variable {c : Cf J} {ρ : Env} {σ : St} {H H1 : Hp} {w w1 : Ws} {s s1 : List J} {O : Addr → Prop}
theorem EI.step (I : EI c ρ σ H w s O) (g : Go c.T O H w H1 w1 s1) : EI c ρ σ H1 w1 s1 O where
  go := I.go.trans g
  oo := I.oo.go g
  o0 := I.o0
  len := I.len
  sl := fun i x e => by
    have q := I.sl i x e
    cases x with
    | no => trivial
    | sh d =>
      obtain ⟨v, h1, h2⟩ := q
      exact ⟨v, h1, h2.le g.le⟩
    | ow ds =>
      obtain ⟨a, vs, h1, h2, h3, h4, h5, h6, h7⟩ := q
      exact ⟨a, vs, h1, g.st _ _ h2 (I.oo.nj a h3), h3, h4, h5, h6.le g.le, h7⟩
    | xc cn fs =>
      obtain ⟨a, cls, d, h1, h2, h3⟩ := q
      exact ⟨a, cls, d, h1, h2, h3.le g.le⟩
theorem EI.jok (I : EI c ρ σ H w s O) : JOk c.T O H w s := I.go.jok
end

/-- the readings -/
def tE (c : Cf J) (W : WX) (r : Bool) (e : E J) : TE := fun σ H Q => ∃ ρ w s O, EI c ρ σ H w s O ∧ Post c.T c.G W σ O H w r (ev c.G.fl r e ρ s) Q
def tT (c : Cf J) (W : WX) (e : E J) : TT := fun σ H Q => ∃ ρ w s O, EI c ρ σ H w s O ∧ PostT c.T c.G W σ O H w (boolOf (ev c.G.fl false e ρ s)) Q
def tA (c : Cf J) (W : WX) (r : Bool) (es : Es J) : TA := fun σ H Q => ∃ ρ w s O, EI c ρ σ H w s O ∧ PostL c.T c.G W σ O H w r (evs c.G.fl r es ρ s) Q
def tEb (c : Cf J) (W : WX) (o : BoolOp) (es : Es J) : TE := fun σ H Q => ∃ ρ w s O, EI c ρ σ H w s O ∧ Post c.T c.G W σ O H w false (evb c.G.fl o es ρ s) Q
def tTb (c : Cf J) (W : WX) (o : BoolOp) (es : Es J) : TT := fun σ H Q => ∃ ρ w s O, EI c ρ σ H w s O ∧ PostT c.T c.G W σ O H w (boolOf (evb c.G.fl o es ρ s)) Q
section
variable {X : Cx} {a b : Expr} {t t' : TE} {u u' : TT}
theorem PE.mono (h : PE X a t) (m : ∀ σ H Q, t' σ H Q → t σ H Q) : PE X a t' := ⟨fun pins s σ H Q I q => h.run pins s σ H Q I (m σ H Q q)⟩
theorem PT.mono (h : PT X a u) (m : ∀ σ H Q, u' σ H Q → u σ H Q) : PT X a u' := ⟨fun pins s σ H Q I q => h.run pins s σ H Q I (m σ H Q q)⟩
theorem PW.mono (h : PW X a u) (m : ∀ σ H Q, u' σ H Q → u σ H Q) : PW X a u' := ⟨fun wh pins s σ H Q I q => h.run wh pins s σ H Q I (m σ H Q q)⟩
theorem PA.mono {es : List Expr} {t t' : TA} (h : PA X es t) (m : ∀ σ H Q, t' σ H Q → t σ H Q) : PA X es t' := ⟨fun pos pins s σ H Q I q => h.run pos pins s σ H Q I (m σ H Q q)⟩
theorem PK.mono {es : List Keyword} {t t' : TA} (h : PK X es t) (m : ∀ σ H Q, t' σ H Q → t σ H Q) : PK X es t' := ⟨fun pos pins s σ H Q I q => h.run pos pins s σ H Q I (m σ H Q q)⟩
theorem PI.mono {tg i : Expr} {t t' : TI} (h : PI X tg i t) (m : ∀ σ H Q, t' σ H Q → t σ H Q) : PI X tg i t' := ⟨fun pins s σ H Q I q => h.run pins s σ H Q I (m σ H Q q)⟩
theorem PO.mono {e : Option Expr} {t t' : TO} (h : PO X e t) (m : ∀ σ H Q, t' σ H Q → t σ H Q) : PO X e t' := ⟨fun pins s σ H Q I q => h.run pins s σ H Q I (m σ H Q q)⟩
end

section
variable {c : Cf J} {W : WX} {X : Cx} {rd : Bool} {a b d : Expr} {x y z : E J} {pos : Pos}
/-- from one expression to what follows it -/
theorem tE_then {σ : St} {H : Hp} {Q Q1 : VK} {ρ : Env} {w : Ws} {s : List J} {O : Addr → Prop} {e : E J} {r rd' : Bool} {f : D × Bool → List J → R J (D × Bool)} (I : EI c ρ σ H w s O)
    (h : Post c.T c.G W σ O H w rd' ((ev c.G.fl r e ρ s).bind f) Q)
    (k : ∀ x s1 v H1 w1, EI c ρ σ H1 w1 s1 O → Go c.T O H w H1 w1 s1 → Rp c.G O w1 H1 r x.1 v → Own c.T c.G O x H H1 w1 s1 v → Post c.T c.G W σ O H1 w1 rd' (f x s1) Q → Q1 v H1) : tE c W r e σ H Q1 :=
  ⟨ρ, w, s, O, I, Post.bind h fun x s1 v H1 w1 g rp ow p => k x s1 v H1 w1 (I.step g) g rp ow p⟩
theorem tE_thenT {α : Type} {σ : St} {H : Hp} {Q : α → Hp → Prop} {Q1 : VK} {ρ : Env} {w : Ws} {s : List J} {O : Addr → Prop} {e : E J} {r : Bool} {f : D × Bool → List J → R J α} (I : EI c ρ σ H w s O)
    (h : PostT c.T c.G W σ O H w ((ev c.G.fl r e ρ s).bind f) Q)
    (k : ∀ x s1 v H1 w1, EI c ρ σ H1 w1 s1 O → Go c.T O H w H1 w1 s1 → Rp c.G O w1 H1 r x.1 v → PostT c.T c.G W σ O H1 w1 (f x s1) Q → Q1 v H1) : tE c W r e σ H Q1 :=
  ⟨ρ, w, s, O, I, Post.bindT h fun x s1 v H1 w1 g rp p => k x s1 v H1 w1 (I.step g) g rp p⟩
theorem tT_then {σ : St} {H : Hp} {Q : VK} {Q1 : Bool → Hp → Prop} {ρ : Env} {w : Ws} {s : List J} {O : Addr → Prop} {e : E J} {rd' : Bool} {f : Bool → List J → R J (D × Bool)} (I : EI c ρ σ H w s O)
    (h : Post c.T c.G W σ O H w rd' ((boolOf (ev c.G.fl false e ρ s)).bind f) Q)
    (k : ∀ b s1 H1 w1, EI c ρ σ H1 w1 s1 O → Go c.T O H w H1 w1 s1 → Post c.T c.G W σ O H1 w1 rd' (f b s1) Q → Q1 b H1) : tT c W e σ H Q1 :=
  ⟨ρ, w, s, O, I, PostT.bind h fun x s1 H1 w1 g p => k x s1 H1 w1 (I.step g) g p⟩
theorem tT_thenT {α : Type} {σ : St} {H : Hp} {Q : α → Hp → Prop} {Q1 : Bool → Hp → Prop} {ρ : Env} {w : Ws} {s : List J} {O : Addr → Prop} {e : E J} {f : Bool → List J → R J α} (I : EI c ρ σ H w s O)
    (h : PostT c.T c.G W σ O H w ((boolOf (ev c.G.fl false e ρ s)).bind f) Q)
    (k : ∀ b s1 H1 w1, EI c ρ σ H1 w1 s1 O → Go c.T O H w H1 w1 s1 → PostT c.T c.G W σ O H1 w1 (f b s1) Q → Q1 b H1) : tT c W e σ H Q1 :=
  ⟨ρ, w, s, O, I, PostT.bindT h fun x s1 H1 w1 g p => k x s1 H1 w1 (I.step g) g p⟩
/-- an int of an expression -/
theorem tE_int {α : Type} {σ : St} {H : Hp} {Q : VK} {Q1 : VK} {ρ : Env} {w : Ws} {s : List J} {O : Addr → Prop} {e : E J} {rd' : Bool} {f : Int → List J → R J (D × Bool)} (I : EI c ρ σ H w s O)
    (h : Post c.T c.G W σ O H w rd' ((intOf (ev c.G.fl false e ρ s)).bind f) Q)
    (k : ∀ i s1 H1 w1, EI c ρ σ H1 w1 s1 O → Go c.T O H w H1 w1 s1 → Post c.T c.G W σ O H1 w1 rd' (f i s1) Q → Q1 (.int i) H1) : tE c W false e σ H Q1 := by
  refine ⟨ρ, w, s, O, I, ?_⟩
  have p : PostT c.T c.G W σ O H w (intOf (ev c.G.fl false e ρ s)) (fun i H1 => Q1 (.int i) H1) := PostT.bind h fun x s1 H1 w1 g p => k x s1 H1 w1 (I.step g) g p
  have q := Post.toI (rd := false) p
  cases r : ev c.G.fl false e ρ s with
  | ok y s' =>
    rw [r] at q
    exact fun v H' w' g rp ow => by
      obtain ⟨j, ej, qj⟩ := q v H' w' g rp ow
      rw [ej]; exact qj
  | exc cn fs s' => rw [r] at q; exact q
  | stk => rw [r] at q; exact q

theorem e_var {i : Nat} {x : Str} (h : varB X.env.scope X.N i x = true) : PE X (.Name x pos) (tE c W rd (.var i x)) := by
  unfold varB at h
  simp only [Bool.and_eq_true, decide_eq_true_eq] at h
  obtain ⟨⟨⟨h1, h2⟩, h3⟩, h4⟩ := h
  refine PE.mono (pe_var (i := i) h1 (visB_vis h2) (beq_eq_false_iff_ne.mpr h3) (beq_eq_false_iff_ne.mpr h4)) fun σ H Q hq => ?_
  obtain ⟨ρ, w, s, O, I, p⟩ := hq
  cases e : ρ[i]? with
  | none =>
    simp only [ev, e] at p
    exact p.elim
  | some sl =>
    have q := I.sl i sl e
    cases sl with
    | no =>
      simp only [ev, e] at p
      exact p.elim
    | xc cn fs =>
      simp only [ev, e] at p
      exact p.elim
    | sh d =>
      obtain ⟨v, hv, rv⟩ := q
      simp only [ev, e] at p
      exact ⟨v, hv, p.okS I.jok (rv.rp rd) rfl⟩
    | ow ds =>
      obtain ⟨ad, vs, hv, hl, ho, _, _, rs, _⟩ := q
      simp only [ev, e] at p
      cases rd with
      | false => exact p.elim
      | true => exact ⟨.ref ad, hv, p.okS I.jok ⟨ad, vs, rfl, hl, I.oo.nj ad ho, rs⟩ rfl⟩
theorem e_const {v : V} {dd : D} (hp : PE X a (tC v)) (he : ∀ ρ (s : List J), ev c.G.fl rd x ρ s = .ok (dd, false) s) (hr : ∀ O w H, Rep c.G O w H dd v) : PE X a (tE c W rd x) := by
  refine PE.mono hp fun σ H Q hq => ?_
  obtain ⟨ρ, w, s, O, I, p⟩ := hq
  rw [he] at p
  exact p.okS I.jok ((hr O w H).rp rd) rfl
theorem e_not (h : PE X a (tE c W false x)) : PE X (.UnaryOp .Not a pos) (tE c W rd (.not x)) := by
  refine PE.mono (pe_not h) fun σ H Q hq => ?_
  obtain ⟨ρ, w, s, O, I, p⟩ := hq
  simp only [ev] at p
  have p2 : PostT c.T c.G W σ O H w (boolOf (ev c.G.fl false x ρ s)) (fun k H1 => Q (.bl (!k)) H1) :=
    PostT.bind p fun k s1 H1 w1 g q => q.okS (I.step g).jok (Rep.rp (show Rep c.G O w1 H1 (.bl (!k)) (.bl (!k)) from rfl) rd) rfl
  exact ⟨ρ, w, s, O, I, Post.toB p2⟩
theorem t_not (h : PT X a (tT c W x)) : PT X (.UnaryOp .Not a pos) (tT c W (.not x)) := by
  refine PT.mono (pt_not h) fun σ H Q hq => ?_
  obtain ⟨ρ, w, s, O, I, p⟩ := hq
  refine ⟨ρ, w, s, O, I, ?_⟩
  simp only [ev, boolOf] at p
  cases r : ev c.G.fl false x ρ s with
  | ok y s' =>
    obtain ⟨dd, u⟩ := y
    rw [r] at p
    cases dd with
    | bl k => exact fun H' w' g => p H' w' g
    | _ => exact p.elim
  | exc cn fs s' => rw [r] at p; exact p
  | stk => rw [r] at p; exact p
theorem e_neg (h : PE X a (tE c W false x)) : PE X (.UnaryOp .USub a pos) (tE c W rd (.neg x)) := by
  refine PE.mono (pe_un un_neg h) fun σ H Q hq => ?_
  obtain ⟨ρ, w, s, O, I, p⟩ := hq
  simp only [ev] at p
  refine tE_int (α := Unit) I p fun i s1 H1 w1 I1 g q => ?_
  exact ⟨i, rfl, q.okS I1.jok (Rep.rp (show Rep c.G O w1 H1 (.int (-i)) (.int (-i)) from rfl) rd) rfl⟩
end
end DL

set_option Elab.async false
set_option linter.all false
set_option maxRecDepth 100000
set_option maxHeartbeats 4000000
/-! The data layer, part e: operators, comparisons, displays, items, slices. -/
namespace DL
open PySem PySem.Spec PyProof.Rows L2
variable {J : Type}

section
variable {G : Gs} {O : Addr → Prop} {w : Ws} {H : Hp} {rd : Bool} {v : V}
theorem Rp.int {i : Int} (h : Rp G O w H rd (.int i) v) : v = .int i := h.non fun _ z => nomatch z
theorem Rp.str {i : Str} (h : Rp G O w H rd (.str i) v) : v = .str i := h.non fun _ z => nomatch z
theorem Rp.bl {i : Bool} (h : Rp G O w H rd (.bl i) v) : v = .bl i := h.non fun _ z => nomatch z
theorem Rp.noneD (h : Rp G O w H rd .non v) : v = .non := h.non fun _ z => nomatch z
theorem Rp.tup {ds : List D} (h : Rp G O w H rd (.tup ds) v) : ∃ a vs, v = .ref a ∧ TupAt G O w H a vs ∧ Reps G O w H ds vs := h.non fun _ z => nomatch z
theorem rep_int {i : Int} : Rep G O w H (.int i) (.int i) := rfl
theorem rep_str {i : Str} : Rep G O w H (.str i) (.str i) := rfl
theorem rep_bl {i : Bool} : Rep G O w H (.bl i) (.bl i) := rfl
theorem Reps.nil {ds : List D} {vs : List V} (h : Reps G O w H ds vs) : vs = [] ↔ ds = [] := by
  have l := h.length
  constructor
  · intro e; rw [e] at l; exact List.eq_nil_of_length_eq_zero l
  · intro e; rw [e] at l; exact List.eq_nil_of_length_eq_zero l.symm
end

/-- an operator's rule, by data -/
def BinRule (X : Cx) (c : Cf J) (o : Operator) (r : R2) : Prop := ∀ {O : Addr → Prop} {w : Ws} {H : Hp} {s : List J} {d e : D} {v u : V} {z : D × Bool} {W : WX} {σ : St} {rd : Bool} {Q : VK},
  binD o d e = some z → OOk O w H → JOk c.T O H w s → Rp c.G O w H true d v → Rp c.G O w H true e u → Post c.T c.G W σ O H w rd (.ok z s) Q → r v u H Q
theorem op_fdivG {X : Cx} : OpR X (binaryOp .FloorDiv) (rI (fun _ j => divOk j = true) fun i j => .int (i.fdiv j)) := opI fun i j _ _ _ _ _ hc q => by
  have h : divOk j = true := hc
  unfold divOk at h
  rw [Bool.and_eq_true, decide_eq_true_eq, decide_eq_true_eq] at h
  exact floordiv_int h.1 q (.inl (PyProof.noPylong_of_log2 h.2))
theorem fdiv_rule {X : Cx} {c : Cf J} : BinRule X c .FloorDiv (rI (fun _ j => divOk j = true) fun i j => .int (i.fdiv j)) := by
  intro O w H s d e v u z W σ rd Q hz oo jo hd he p
  cases d <;> cases e <;> simp only [binD] at hz <;> first | cases hz | skip
  rename_i i j
  split at hz
  · cases hz
    exact ⟨i, j, hd.int, he.int, by assumption, p.okS jo (rep_int.rp rd) rfl⟩
  · cases hz
theorem mod_rule {X : Cx} {c : Cf J} : BinRule X c .Mod (rI (fun _ j => j ≠ 0) fun i j => .int (i.fmod j)) := by
  intro O w H s d e v u z W σ rd Q hz oo jo hd he p
  cases d <;> cases e <;> simp only [binD] at hz <;> first | cases hz | skip
  rename_i i j
  split at hz
  · cases hz
  · cases hz
    exact ⟨i, j, hd.int, he.int, by assumption, p.okS jo (rep_int.rp rd) rfl⟩
theorem mul_rule {X : Cx} {c : Cf J} : BinRule X c .Mult (rI CMulW fun i j => .int (i * j)) := by
  intro O w H s d e v u z W σ rd Q hz oo jo hd he p
  cases d <;> cases e <;> simp only [binD] at hz <;> first | cases hz | skip
  rename_i i j
  split at hz
  · cases hz
    rename_i hm
    exact ⟨i, j, hd.int, he.int, (show i.natAbs.log2 + j.natAbs.log2 < 1000000 from of_decide_eq_true hm), p.okS jo (rep_int.rp rd) rfl⟩
  · cases hz
theorem sub_rule {X : Cx} {c : Cf J} : BinRule X c .Sub (rI0 fun i j => .int (i - j)) := by
  intro O w H s d e v u z W σ rd Q hz oo jo hd he p
  cases d <;> cases e <;> simp only [binD] at hz <;> first | cases hz | skip
  rename_i i j
  exact ⟨i, j, hd.int, he.int, p.okS jo (rep_int.rp rd) rfl⟩
theorem powOk_c {i j : Int} (h : powOk i j = true) : CPow i j := by
  unfold powOk at h
  simp only [Bool.and_eq_true, decide_eq_true_eq] at h
  exact ⟨h.1.1, h.1.2, h.2⟩
theorem pow_rule {X : Cx} {c : Cf J} : BinRule X c .Pow (rI CPow fun i j => .int (i ^ j.toNat)) := by
  intro O w H s d e v u z W σ rd Q hz oo jo hd he p
  cases d <;> cases e <;> simp only [binD] at hz <;> first | cases hz | skip
  rename_i i j
  split at hz
  · cases hz
    exact ⟨i, j, hd.int, he.int, powOk_c (by assumption), p.okS jo (rep_int.rp rd) rfl⟩
  · cases hz
theorem shl_rule {X : Cx} {c : Cf J} : BinRule X c .LShift (rI CPow fun i j => .int (i * 2 ^ j.toNat)) := by
  intro O w H s d e v u z W σ rd Q hz oo jo hd he p
  cases d <;> cases e <;> simp only [binD] at hz <;> first | cases hz | skip
  rename_i i j
  split at hz
  · cases hz
    exact ⟨i, j, hd.int, he.int, powOk_c (by assumption), p.okS jo (rep_int.rp rd) rfl⟩
  · cases hz
theorem shr_rule {X : Cx} {c : Cf J} : BinRule X c .RShift (rI (fun _ j => 0 ≤ j) fun i j => .int (i / 2 ^ j.toNat)) := by
  intro O w H s d e v u z W σ rd Q hz oo jo hd he p
  cases d <;> cases e <;> simp only [binD] at hz <;> first | cases hz | skip
  rename_i i j
  split at hz
  · cases hz
    exact ⟨i, j, hd.int, he.int, by assumption, p.okS jo (rep_int.rp rd) rfl⟩
  · cases hz
def rAddD (X : Cx) : R2 := fun x y H Q => rI0 (fun i j => .int (i + j)) x y H Q ∨ rCatA X.K x y H Q ∨ rCat x y H Q ∨ ∃ i j, x = .str i ∧ y = .str j ∧ i.length + j.length ≤ sizeLine ∧ Q (.str (i ++ j)) H
theorem op_addD {X : Cx} : OpR X (binaryOp .Add) (rAddD X) := OpR.or op_add (OpR.or op_catA (OpR.or op_cat op_add_str))
theorem add_rule {X : Cx} {c : Cf J} (hK : X.K = c.G.K) : BinRule X c .Add (rAddD X) := by
  intro O w H s d e v u z W σ rd Q hz oo jo hd he p
  cases d <;> cases e <;> simp only [binD] at hz <;> first | cases hz | skip
  · rename_i i j
    exact .inl ⟨i, j, hd.int, he.int, p.okS jo (rep_int.rp rd) rfl⟩
  · rename_i i j
    split at hz
    · cases hz
      rename_i hl
      exact .inr (.inr (.inr ⟨i, j, hd.str, he.str, by rw [sizeLine_eq]; exact hl, p.okS jo (rep_str.rp rd) rfl⟩))
    · cases hz
  · rename_i xs ys
    split at hz
    · cases hz
      rename_i hl
      obtain ⟨a, vs, rfl, ha, rv⟩ := hd.tup
      obtain ⟨b, us, rfl, hb, ru⟩ := he.tup
      have h1 := rv.length
      have h2 := ru.length
      refine .inr (.inl ⟨a, b, vs, us, rfl, rfl, by rw [hK]; exact ha.sq, by rw [hK]; exact hb.sq, by rw [sizeLine_eq]; omega, fun e0 => ?_, fun _ e1 => ?_, fun _ _ q hq => ?_⟩)
      · have e2 := (rv.nil).mp e0
        subst e2
        exact p.okS jo (Rep.rp (show Rep c.G O w H (.tup ([] ++ ys)) (.ref b) from ⟨b, us, rfl, hb, ru⟩) rd) rfl
      · have e2 := (ru.nil).mp e1
        subst e2
        exact p.okS jo (Rep.rp (show Rep c.G O w H (.tup (xs ++ [])) (.ref a) from ⟨a, vs, rfl, ha, by rw [List.append_nil]; exact rv⟩) rd) rfl
      · exact p.newT oo jo (rv.append ru) q hq
    · cases hz
  · rename_i xs ys
    split at hz
    · cases hz
      rename_i hl
      obtain ⟨a, vs, rfl, ha, _, rv⟩ := hd.lst
      obtain ⟨b, us, rfl, hb, _, ru⟩ := he.lst
      have h1 := rv.length
      have h2 := ru.length
      exact .inr (.inr (.inl ⟨a, b, vs, us, rfl, rfl, ha, hb, by rw [sizeLine_eq]; omega, fun q hq => p.newL oo jo (rv.append ru) q hq⟩))
    · cases hz
theorem bin_rule {X : Cx} {c : Cf J} (hK : X.K = c.G.K) (o : Operator) : ∃ r : R2, OpR X (binaryOp o) r ∧ BinRule X c o r := by
  have none : ∀ o', (∀ d e, binD o' d e = none) → ∃ r : R2, OpR X (binaryOp o') r ∧ BinRule X c o' r := fun o' h =>
    ⟨fun _ _ _ _ => False, fun _ _ _ _ _ _ _ _ _ _ _ _ z => z.elim, fun hz _ _ _ _ _ => by rw [h] at hz; cases hz⟩
  cases o with
  | Add => exact ⟨_, op_addD, add_rule hK⟩
  | Sub => exact ⟨_, op_sub, sub_rule (X := X)⟩
  | Mult => exact ⟨_, op_mulW, mul_rule (X := X)⟩
  | FloorDiv => exact ⟨_, op_fdivG, fdiv_rule (X := X)⟩
  | Mod => exact ⟨_, op_modN, mod_rule (X := X)⟩
  | Pow => exact ⟨_, op_pow, pow_rule (X := X)⟩
  | LShift => exact ⟨_, op_shl, shl_rule (X := X)⟩
  | RShift => exact ⟨_, op_shr, shr_rule (X := X)⟩
  | _ => exact none _ fun d e => by cases d <;> cases e <;> rfl
section
variable {c : Cf J} {W : WX} {X : Cx} {rd : Bool} {a b d : Expr} {x y z : E J} {pos : Pos}
theorem e_bin {o : Operator} (hK : X.K = c.G.K) (ha : PE X a (tE c W true x)) (hb : PE X b (tE c W true y)) : PE X (.BinOp a o b pos) (tE c W rd (.bin o x y)) := by
  obtain ⟨r, h1, h2⟩ := bin_rule (X := X) hK o
  refine PE.mono (pe_op h1 ha hb) fun σ H Q hq => ?_
  obtain ⟨ρ, w, s, O, I, p⟩ := hq
  simp only [ev] at p
  refine tE_then I p fun x1 s1 v1 H1 w1 I1 g1 r1 _ p1 => tE_then I1 p1 fun x2 s2 v2 H2 w2 I2 g2 r2 _ p2 => ?_
  cases e : binD o x1.1 x2.1 with
  | none =>
    rw [e] at p2
    exact p2.elim
  | some zz =>
    rw [e] at p2
    exact h2 e I2.oo I2.jok (r1.go g2) r2 p2
end
end DL

set_option Elab.async false
set_option linter.all false
set_option maxRecDepth 100000
set_option maxHeartbeats 4000000
/-! The data layer, part f: comparisons. -/
namespace DL
open PySem PySem.Spec PyProof.Rows L2
variable {J : Type}

section
variable {G : Gs} {O : Addr → Prop} {w : Ws} {H : Hp} {rd : Bool}
mutual
theorem Rep.dp : ∀ (d : D) (n : Nat) (v : V), D.plain n d = true → Rep G O w H d v → Dp G.K H v (toPy d)
  | .non, _, _, _, h => by cases (show _ = V.non from h); exact .non
  | .bl b, _, _, _, h => by cases (show _ = V.bl b from h); exact .bl b
  | .int i, _, _, _, h => by cases (show _ = V.int i from h); exact .int i
  | .str x, _, _, _, h => by cases (show _ = V.str x from h); exact .str x
  | .tup ds, 0, _, p, _ => by simp [D.plain] at p
  | .tup ds, n + 1, v, p, h => by
    obtain ⟨a, vs, rfl, ha, r⟩ := h
    simp only [D.plain, Bool.and_eq_true] at p
    exact .tup ha.sq (Reps.dp ds n vs p.2 r)
  | .lst ds, 0, _, p, _ => by simp [D.plain] at p
  | .lst ds, n + 1, v, p, h => by
    obtain ⟨a, vs, rfl, ha, _, r⟩ := h
    simp only [D.plain, Bool.and_eq_true] at p
    exact .lst (SqL.of ha) (Reps.dp ds n vs p.2 r)
  | .scr _, n, _, p, _ => by cases n <;> simp [D.plain] at p
  | .ins _ _, n, _, p, _ => by cases n <;> simp [D.plain] at p
  | .box _, n, _, p, _ => by cases n <;> simp [D.plain] at p
theorem Reps.dp : ∀ (ds : List D) (n : Nat) (vs : List V), D.plains n ds = true → Reps G O w H ds vs → DpAll G.K H vs (toPys ds)
  | [], _, _, _, h => by cases (show _ = _ from h); exact .nil
  | d :: ds, n, vs, p, h => by
    obtain ⟨v, r, rfl, h1, h2⟩ := h
    simp only [D.plains, Bool.and_eq_true] at p
    exact .cons (Rep.dp d n v p.1 h1) (Reps.dp ds n r p.2 h2)
end
theorem Rp.dp {d : D} {v : V} {n : Nat} (p : D.plain n d = true) (h : Rp G O w H rd d v) : Dp G.K H v (toPy d) := by
  cases d with
  | lst ds =>
    obtain ⟨a, vs, rfl, ha, _, r⟩ := h.lst
    cases n with
    | zero => simp [D.plain] at p
    | succ n =>
      simp only [D.plain, Bool.and_eq_true] at p
      exact .lst (SqL.of ha) (Reps.dp ds n vs p.2 r)
  | _ => exact Rep.dp _ n v p (h.non fun _ z => nomatch z)
end
mutual
theorem plain_lay : ∀ (d : D) (n : Nat), D.plain n d = true → (toPy d).canLay0 = true ∧ (toPy d).depth ≤ n
  | .non, n, _ => ⟨rfl, by simp [toPy, PyData.depth]⟩
  | .bl _, n, _ => ⟨rfl, by simp [toPy, PyData.depth]⟩
  | .int _, n, _ => ⟨rfl, by simp [toPy, PyData.depth]⟩
  | .str x, n, p => ⟨by cases n <;> simpa [D.plain, toPy, PyData.canLay0, PyData.strOk] using p, by simp [toPy, PyData.depth]⟩
  | .tup ds, 0, p => by simp [D.plain] at p
  | .tup ds, n + 1, p => by
    simp only [D.plain, Bool.and_eq_true] at p
    obtain ⟨h1, h2⟩ := plains_lay ds n p.2
    exact ⟨by simpa [toPy, PyData.canLay0] using h1, by simp only [toPy, PyData.depth]; omega⟩
  | .lst ds, 0, p => by simp [D.plain] at p
  | .lst ds, n + 1, p => by
    simp only [D.plain, Bool.and_eq_true] at p
    obtain ⟨h1, h2⟩ := plains_lay ds n p.2
    exact ⟨by simpa [toPy, PyData.canLay0] using h1, by simp only [toPy, PyData.depth]; omega⟩
  | .scr _, n, p => by cases n <;> simp [D.plain] at p
  | .ins _ _, n, p => by cases n <;> simp [D.plain] at p
  | .box _, n, p => by cases n <;> simp [D.plain] at p
theorem plains_lay : ∀ (ds : List D) (n : Nat), D.plains n ds = true → PyData.canLayAll0 (toPys ds) = true ∧ PyData.depthAll (toPys ds) ≤ n
  | [], n, _ => ⟨rfl, by simp [toPys, PyData.depthAll]⟩
  | d :: ds, n, p => by
    simp only [D.plains, Bool.and_eq_true] at p
    obtain ⟨h1, h2⟩ := plain_lay d n p.1
    obtain ⟨h3, h4⟩ := plains_lay ds n p.2
    exact ⟨by simp [toPys, PyData.canLayAll0, h1, h3], by simp only [toPys, PyData.depthAll]; omega⟩
end
theorem plain_shaped {d : D} (h : D.plain 60 d = true) : SeqAt.shaped (toPy d) = true := by
  obtain ⟨h1, h2⟩ := plain_lay d 60 h
  unfold SeqAt.shaped
  rw [h1, decide_eq_true (show (toPy d).depth ≤ 64 by omega)]
  rfl
mutual
theorem eqv_py : ∀ (d e : D) (n m : Nat), D.plain n d = true → D.plain m e = true → PyData.eqv (toPy d) (toPy e) = D.eqv d e
  | .non, e, n, m, p, q => by cases e <;> first | (cases m <;> simp [D.plain] at q; done) | simp [toPy, PyData.eqv, D.eqv]
  | .bl _, e, n, m, p, q => by cases e <;> first | (cases m <;> simp [D.plain] at q; done) | simp [toPy, PyData.eqv, D.eqv]
  | .int _, e, n, m, p, q => by cases e <;> first | (cases m <;> simp [D.plain] at q; done) | simp [toPy, PyData.eqv, D.eqv]
  | .str _, e, n, m, p, q => by cases e <;> first | (cases m <;> simp [D.plain] at q; done) | simp [toPy, PyData.eqv, D.eqv]
  | .tup ds, e, 0, m, p, q => by simp [D.plain] at p
  | .tup ds, .tup es, n + 1, 0, p, q => by simp [D.plain] at q
  | .tup ds, .tup es, n + 1, m + 1, p, q => by
    simp only [D.plain, Bool.and_eq_true] at p q
    simp only [toPy, PyData.eqv, D.eqv]
    exact eqvs_py ds es n m p.2 q.2
  | .tup ds, .non, n + 1, m, p, q => by simp [toPy, PyData.eqv, D.eqv]
  | .tup ds, .bl _, n + 1, m, p, q => by simp [toPy, PyData.eqv, D.eqv]
  | .tup ds, .int _, n + 1, m, p, q => by simp [toPy, PyData.eqv, D.eqv]
  | .tup ds, .str _, n + 1, m, p, q => by simp [toPy, PyData.eqv, D.eqv]
  | .tup ds, .lst _, n + 1, m, p, q => by simp [toPy, PyData.eqv, D.eqv]
  | .tup ds, .scr _, n + 1, m, p, q => by cases m <;> simp [D.plain] at q
  | .tup ds, .ins _ _, n + 1, m, p, q => by cases m <;> simp [D.plain] at q
  | .tup ds, .box _, n + 1, m, p, q => by cases m <;> simp [D.plain] at q
  | .lst ds, e, 0, m, p, q => by simp [D.plain] at p
  | .lst ds, .lst es, n + 1, 0, p, q => by simp [D.plain] at q
  | .lst ds, .lst es, n + 1, m + 1, p, q => by
    simp only [D.plain, Bool.and_eq_true] at p q
    simp only [toPy, PyData.eqv, D.eqv]
    exact eqvs_py ds es n m p.2 q.2
  | .lst ds, .non, n + 1, m, p, q => by simp [toPy, PyData.eqv, D.eqv]
  | .lst ds, .bl _, n + 1, m, p, q => by simp [toPy, PyData.eqv, D.eqv]
  | .lst ds, .int _, n + 1, m, p, q => by simp [toPy, PyData.eqv, D.eqv]
  | .lst ds, .str _, n + 1, m, p, q => by simp [toPy, PyData.eqv, D.eqv]
  | .lst ds, .tup _, n + 1, m, p, q => by simp [toPy, PyData.eqv, D.eqv]
  | .lst ds, .scr _, n + 1, m, p, q => by cases m <;> simp [D.plain] at q
  | .lst ds, .ins _ _, n + 1, m, p, q => by cases m <;> simp [D.plain] at q
  | .lst ds, .box _, n + 1, m, p, q => by cases m <;> simp [D.plain] at q
  | .scr _, e, n, m, p, q => by cases n <;> simp [D.plain] at p
  | .ins _ _, e, n, m, p, q => by cases n <;> simp [D.plain] at p
  | .box _, e, n, m, p, q => by cases n <;> simp [D.plain] at p
theorem eqvs_py : ∀ (ds es : List D) (n m : Nat), D.plains n ds = true → D.plains m es = true → PyData.eqvAll (toPys ds) (toPys es) = D.eqvs ds es
  | [], [], n, m, p, q => by simp [toPys, PyData.eqvAll, D.eqvs]
  | [], _ :: _, n, m, p, q => by simp [toPys, PyData.eqvAll, D.eqvs]
  | _ :: _, [], n, m, p, q => by simp [toPys, PyData.eqvAll, D.eqvs]
  | d :: ds, e :: es, n, m, p, q => by
    simp only [D.plains, Bool.and_eq_true] at p q
    simp only [toPys, PyData.eqvAll, D.eqvs]
    rw [eqv_py d e n m p.1 q.1, eqvs_py ds es n m p.2 q.2]
end

/-- a comparison's rule, by data -/
def CmpRule (X : Cx) (c : Cf J) (o : CmpOp) (r : R2) : Prop := ∀ {O : Addr → Prop} {w : Ws} {H : Hp} {d e : D} {v u : V} {k : Bool} {Q : VK},
  cmpD o d e = some k → Rp c.G O w H true d v → Rp c.G O w H true e u → Q (.bl k) H → r v u H Q
def rEqAll (X : Cx) : R2 := fun x y H Q => rEq x y H Q ∨ rEqD X.K x y H Q
def rNeAll (X : Cx) : R2 := fun x y H Q => rNe x y H Q ∨ rNeD X.K x y H Q
theorem eq_rule {X : Cx} {c : Cf J} (hK : X.K = c.G.K) : CmpRule X c .Eq (rEqAll X) := by
  intro O w H d e v u k Q hk hd he q
  simp only [cmpD, eqD] at hk
  split at hk
  · rename_i a b
    cases hk
    refine .inl ?_
    rw [hd.str, he.str]
    refine ⟨rfl, ?_⟩
    rw [dec_str]
    exact q
  · rename_i hs
    split at hk
    · rename_i hp
      cases hk
      rw [Bool.and_eq_true] at hp
      exact .inr ⟨toPy d, toPy e, by rw [hK]; exact hd.dp hp.1, by rw [hK]; exact he.dp hp.2, plain_shaped hp.1, plain_shaped hp.2, by rw [eqv_py d e 60 60 hp.1 hp.2]; exact q⟩
    · cases hk
theorem ne_rule {X : Cx} {c : Cf J} (hK : X.K = c.G.K) : CmpRule X c .NotEq (rNeAll X) := by
  intro O w H d e v u k Q hk hd he q
  simp only [cmpD, eqD] at hk
  split at hk
  · rename_i a b
    cases hk
    refine .inl ?_
    rw [hd.str, he.str]
    refine ⟨rfl, ?_⟩
    rw [dec_str]
    exact q
  · rename_i hs
    split at hk
    · rename_i hp
      cases hk
      rw [Bool.and_eq_true] at hp
      exact .inr ⟨toPy d, toPy e, by rw [hK]; exact hd.dp hp.1, by rw [hK]; exact he.dp hp.2, plain_shaped hp.1, plain_shaped hp.2, by rw [eqv_py d e 60 60 hp.1 hp.2]; exact q⟩
    · cases hk
/-- is: of a thing and None, True, False -/
def isV : V → V → Option Bool
  | x, .non => some (decide (x = .non))
  | x, .bl b => match x with | .bl a => some (a == b) | .non => some false | .int _ => some false | .str _ => some false | .ref _ => some false | _ => none
  | _, _ => none
def rIsA : R2 := fun x y H Q => ∃ k, isV x y = some k ∧ Q (.bl k) H
theorem op_isA {X : Cx} : OpR X (compareOp .Is) rIsA := by
  intro pins s σ H x y v u Q I rx ry h
  obtain ⟨k, hk, q⟩ := h
  cases y with
  | non =>
    cases hk
    exact op_isN pins s σ H x .non v u Q I rx ry ⟨rfl, q⟩
  | bl b =>
    cases (show u = Value.bool b from ry)
    cases x with
    | bl a =>
      cases hk
      cases (show v = Value.bool a from rx)
      exact wpAny_is_plain rfl (fin_bl I q (by cases a <;> cases b <;> rfl))
    | non =>
      cases hk
      cases (show v = Value.none from rx)
      exact wpAny_is_plain rfl (fin_bl I q (by cases b <;> rfl))
    | int i =>
      cases hk
      obtain ⟨t, e⟩ := (show ∃ t, v = Value.int i t from rx)
      cases e
      exact wpAny_is_plain rfl (fin_bl I q (by cases b <;> rfl))
    | str i =>
      cases hk
      obtain ⟨t, e⟩ := (show ∃ t, v = Value.str i t from rx)
      cases e
      exact wpAny_is_plain rfl (fin_bl I q (by cases b <;> rfl))
    | ref a =>
      cases hk
      cases (show v = Value.ref a from rx)
      exact wpAny_is_plain rfl (fin_bl I q (by cases b <;> rfl))
    | _ => cases hk
  | _ => cases hk
def rIsNotA : R2 := fun x y H Q => ∃ k, isV x y = some k ∧ Q (.bl (!k)) H
theorem op_isNotA {X : Cx} : OpR X (compareOp .IsNot) rIsNotA := by
  intro pins s σ H x y v u Q I rx ry h
  obtain ⟨k, hk, q⟩ := h
  cases y with
  | non =>
    cases hk
    exact op_notN pins s σ H x .non v u Q I rx ry ⟨rfl, q⟩
  | bl b =>
    cases (show u = Value.bool b from ry)
    cases x with
    | bl a =>
      cases hk
      cases (show v = Value.bool a from rx)
      exact wpAny_isNot_plain rfl (fin_bl I q (by cases a <;> cases b <;> rfl))
    | non =>
      cases hk
      cases (show v = Value.none from rx)
      exact wpAny_isNot_plain rfl (fin_bl I q (by cases b <;> rfl))
    | int i =>
      cases hk
      obtain ⟨t, e⟩ := (show ∃ t, v = Value.int i t from rx)
      cases e
      exact wpAny_isNot_plain rfl (fin_bl I q (by cases b <;> rfl))
    | str i =>
      cases hk
      obtain ⟨t, e⟩ := (show ∃ t, v = Value.str i t from rx)
      cases e
      exact wpAny_isNot_plain rfl (fin_bl I q (by cases b <;> rfl))
    | ref a =>
      cases hk
      cases (show v = Value.ref a from rx)
      exact wpAny_isNot_plain rfl (fin_bl I q (by cases b <;> rfl))
    | _ => cases hk
  | _ => cases hk
theorem isD_isV {G : Gs} {O : Addr → Prop} {w : Ws} {H : Hp} {rd : Bool} {d e : D} {v u : V} {k : Bool} (hk : isD d e = some k) (hd : Rp G O w H rd d v) (he : Rp G O w H rd e u) : isV v u = some k := by
  cases e with
  | non =>
    cases he.noneD
    cases hk
    cases d with
    | non => cases hd.noneD; rfl
    | bl b => cases hd.bl; rfl
    | int b => cases hd.int; rfl
    | str b => cases hd.str; rfl
    | tup ds => obtain ⟨a, vs, rfl, _⟩ := hd.tup; rfl
    | lst ds => obtain ⟨a, vs, rfl, _⟩ := hd.lst; rfl
    | scr ds => obtain ⟨a, vs, rfl, _⟩ := hd.non (fun _ z => nomatch z); rfl
    | ins cc fs => obtain ⟨a, C, dx, vs, rfl, _⟩ := hd.non (fun _ z => nomatch z); rfl
    | box k => obtain ⟨a, _, rfl⟩ := hd.non (fun _ z => nomatch z); rfl
  | bl b =>
    cases he.bl
    cases d with
    | non => cases hd.noneD; exact hk
    | bl b => cases hd.bl; exact hk
    | int b => cases hd.int; exact hk
    | str b => cases hd.str; exact hk
    | tup ds => obtain ⟨a, vs, rfl, _⟩ := hd.tup; exact hk
    | lst ds => obtain ⟨a, vs, rfl, _⟩ := hd.lst; exact hk
    | scr ds => cases hk
    | ins cc fs => cases hk
    | box k => cases hk
  | _ => cases d <;> cases hk
theorem cmp_rule {X : Cx} {c : Cf J} (hK : X.K = c.G.K) (hu : X.A.units + 64 < cLine) (o : CmpOp) : ∃ r : R2, OpR X (compareOp o) r ∧ CmpRule X c o r := by
  have none : ∀ o', (∀ d e, cmpD o' d e = none) → ∃ r : R2, OpR X (compareOp o') r ∧ CmpRule X c o' r := fun o' h =>
    ⟨fun _ _ _ _ => False, fun _ _ _ _ _ _ _ _ _ _ _ _ z => z.elim, fun hz _ _ _ => by rw [h] at hz; cases hz⟩
  cases o with
  | Eq => exact ⟨_, OpR.or op_eq (op_eqD hu), eq_rule (X := X) hK⟩
  | NotEq => exact ⟨_, OpR.or op_ne (op_neD hu), ne_rule (X := X) hK⟩
  | Lt => exact ⟨_, op_lt, fun {O w H d e v u k Q} hk hd he q => by
      cases d <;> cases e <;> simp only [cmpD] at hk <;> cases hk
      exact ⟨_, _, hd.int, he.int, q⟩⟩
  | LtE => exact ⟨_, op_le, fun {O w H d e v u k Q} hk hd he q => by
      cases d <;> cases e <;> simp only [cmpD] at hk <;> cases hk
      exact ⟨_, _, hd.int, he.int, q⟩⟩
  | Gt => exact ⟨_, op_gt, fun {O w H d e v u k Q} hk hd he q => by
      cases d <;> cases e <;> simp only [cmpD] at hk <;> cases hk
      exact ⟨_, _, hd.int, he.int, q⟩⟩
  | GtE => exact ⟨_, op_ge, fun {O w H d e v u k Q} hk hd he q => by
      cases d <;> cases e <;> simp only [cmpD] at hk <;> cases hk
      exact ⟨_, _, hd.int, he.int, q⟩⟩
  | Is => exact ⟨_, op_isA, fun {O w H d e v u k Q} hk hd he q => ⟨k, isD_isV (show isD d e = some k from hk) hd he, q⟩⟩
  | IsNot => exact ⟨_, op_isNotA, fun {O w H d e v u k Q} hk hd he q => by
      simp only [cmpD] at hk
      obtain ⟨j, hj, rfl⟩ := Option.map_eq_some_iff.mp hk
      exact ⟨j, isD_isV hj hd he, q⟩⟩
  | _ => exact none _ fun d e => by cases d <;> cases e <;> rfl
section
variable {c : Cf J} {W : WX} {X : Cx} {rd : Bool} {a b d : Expr} {x y z : E J} {pos : Pos}
theorem e_cmp {o : CmpOp} (hK : X.K = c.G.K) (hu : X.A.units + 64 < cLine) (ha : PE X a (tE c W true x)) (hb : PE X b (tE c W true y)) (hp : plE b = true) : PE X (.Compare a [o] [b] pos) (tE c W rd (.cmp o x y)) := by
  obtain ⟨r, h1, h2⟩ := cmp_rule (c := c) hK hu o
  refine PE.mono (pe_cmpR h1 ha hb (pl_marks hp o)) fun σ H Q hq => ?_
  obtain ⟨ρ, w, s, O, I, p⟩ := hq
  simp only [ev] at p
  refine tE_then I p fun x1 s1 v1 H1 w1 I1 g1 r1 _ p1 => tE_then I1 p1 fun x2 s2 v2 H2 w2 I2 g2 r2 _ p2 => ?_
  cases e : cmpD o x1.1 x2.1 with
  | none => rw [e] at p2; exact p2.elim
  | some k => rw [e] at p2; exact h2 e (r1.go g2) r2 (p2.okS I2.jok (rep_bl.rp rd) rfl)
theorem t_cmp {o : CmpOp} (hK : X.K = c.G.K) (hu : X.A.units + 64 < cLine) (ha : PE X a (tE c W true x)) (hb : PE X b (tE c W true y)) (hp : plE b = true) : PT X (.Compare a [o] [b] pos) (tT c W (.cmp o x y)) := by
  obtain ⟨r, h1, h2⟩ := cmp_rule (c := c) hK hu o
  refine PT.mono (pt_cmpR h1 ha hb (pl_marks hp o)) fun σ H Q hq => ?_
  obtain ⟨ρ, w, s, O, I, p⟩ := hq
  simp only [ev] at p
  have p' := Post.toB (rd := false) p
  refine tE_then I p' fun x1 s1 v1 H1 w1 I1 g1 r1 _ p1 => tE_then I1 p1 fun x2 s2 v2 H2 w2 I2 g2 r2 _ p2 => ?_
  cases e : cmpD o x1.1 x2.1 with
  | none => rw [e] at p2; exact p2.elim
  | some k => rw [e] at p2; exact h2 e (r1.go g2) r2 (p2.okS I2.jok (rep_bl.rp false) rfl)
theorem chn_post {o p' : CmpOp} {r r' : R2} {σ : St} {H : Hp} {Q : VK} (h2 : CmpRule X c o r) (h3 : CmpRule X c p' r') (rd : Bool) (hq : tE c W rd (.chn o p' x y z) σ H Q) : tChain r r' (tE c W true x) (tE c W true y) (tE c W true z) σ H Q := by
  obtain ⟨ρ, w, s, O, I, p⟩ := hq
  simp only [ev] at p
  refine tE_then I p fun x1 s1 v1 H1 w1 I1 g1 r1 _ p1 => tE_then I1 p1 fun x2 s2 v2 H2 w2 I2 g2 r2 _ p2 => ?_
  cases e : cmpD o x1.1 x2.1 with
  | none => rw [e] at p2; exact p2.elim
  | some k =>
    rw [e] at p2
    refine h2 e (r1.go g2) r2 ⟨k, rfl, ?_⟩
    cases k with
    | false =>
      rw [if_neg Bool.false_ne_true]
      exact Post.okS (rd := rd) p2 I2.jok (rep_bl.rp rd) rfl
    | true =>
      rw [if_pos rfl]
      refine tE_then I2 (rd' := rd) (f := fun z s => liftB (cmpD p' x2.1 z.1) s) p2 fun x3 s3 v3 H3 w3 I3 g3 r3 _ p3 => ?_
      cases e : cmpD p' x2.1 x3.1 with
      | none => rw [e] at p3; exact p3.elim
      | some k => rw [e] at p3; exact h3 e (r2.go g3) r3 (p3.okS I3.jok (rep_bl.rp rd) rfl)
theorem e_chn {o p' : CmpOp} (hK : X.K = c.G.K) (hu : X.A.units + 64 < cLine) (ha : PE X a (tE c W true x)) (hb : PE X b (tE c W true y)) (hd : PE X d (tE c W true z)) (hp : plE d = true) : PE X (.Compare a [o, p'] [b, d] pos) (tE c W rd (.chn o p' x y z)) := by
  obtain ⟨r, h1, h2⟩ := cmp_rule (c := c) hK hu o
  obtain ⟨r', h1', h2'⟩ := cmp_rule (c := c) hK hu p'
  exact PE.mono (pe_chain h1 h1' ha hb hd (show behindInMarks p' d = false from pl_marks hp p')) fun σ H Q hq => chn_post (X := X) h2 h2' rd hq
theorem t_chn {o p' : CmpOp} (hK : X.K = c.G.K) (hu : X.A.units + 64 < cLine) (ha : PE X a (tE c W true x)) (hb : PE X b (tE c W true y)) (hd : PE X d (tE c W true z)) (hp : plE d = true) : PT X (.Compare a [o, p'] [b, d] pos) (tT c W (.chn o p' x y z)) := by
  obtain ⟨r, h1, h2⟩ := cmp_rule (c := c) hK hu o
  obtain ⟨r', h1', h2'⟩ := cmp_rule (c := c) hK hu p'
  refine PT.mono (pt_chain h1 h1' ha hb hd (show behindInMarks p' d = false from pl_marks hp p')) fun σ H Q hq => ?_
  obtain ⟨ρ, w, s, O, I, p⟩ := hq
  exact chn_post (X := X) h2 h2' false ⟨ρ, w, s, O, I, Post.toB p⟩
end
end DL

set_option Elab.async false
set_option linter.all false
set_option maxRecDepth 100000
set_option maxHeartbeats 4000000
/-! The data layer, part g: and, or, displays, items, slices, built-in functions, isinstance, fields. -/
namespace DL
open PySem PySem.Spec PyProof.Rows L2
variable {J : Type}

section
variable {c : Cf J} {W : WX} {X : Cx} {rd : Bool} {a b d : Expr} {x y z : E J} {pos : Pos} {es : Es J}
theorem tB_then {σ : St} {H : Hp} {Q : VK} {Q1 : Bool → Hp → Prop} {ρ : Env} {w : Ws} {s : List J} {O : Addr → Prop} {e : E J} {rd' : Bool} {f : Bool → List J → R J (D × Bool)} (I : EI c ρ σ H w s O)
    (h : Post c.T c.G W σ O H w rd' ((boolOf (ev c.G.fl false e ρ s)).bind f) Q)
    (k : ∀ b s1 H1 w1, EI c ρ σ H1 w1 s1 O → Go c.T O H w H1 w1 s1 → Post c.T c.G W σ O H1 w1 rd' (f b s1) Q → Q1 b H1) : tE c W false e σ H (fun v H1 => ∃ j, v = .bl j ∧ Q1 j H1) :=
  ⟨ρ, w, s, O, I, Post.toB (PostT.bind h fun j s1 H1 w1 g p => k j s1 H1 w1 (I.step g) g p)⟩
/-! ### and, or -/
theorem eb_one {o : BoolOp} (h : PE X a (tE c W false x)) : PE X (.BoolOp o [a] pos) (tEb c W o (.cons x .nil)) := by
  refine PE.mono (pe_one h) fun σ H Q hq => ?_
  obtain ⟨ρ, w, s, O, I, p⟩ := hq
  simp only [evb] at p
  exact tE_then I p fun x1 s1 v1 H1 w1 I1 g1 r1 _ p1 => p1.okS I1.jok r1 rfl
theorem eb_more {o : BoolOp} {bs : List Expr} (h : PE X a (tE c W false x)) (h2 : PE X (.BoolOp o (b :: bs) pos) (tEb c W o (.cons y es))) : PE X (.BoolOp o (a :: b :: bs) pos) (tEb c W o (.cons x (.cons y es))) := by
  cases o with
  | And =>
    refine PE.mono (pe_and h h2) fun σ H Q hq => ?_
    obtain ⟨ρ, w, s, O, I, p⟩ := hq
    simp only [evb] at p
    refine tB_then I p fun k s1 H1 w1 I1 g1 p1 => ?_
    cases k with
    | true => exact iteT ⟨ρ, w1, s1, O, I1, p1⟩
    | false => exact iteF (Post.okS (rd := false) p1 I1.jok (rep_bl.rp false) rfl)
  | Or =>
    refine PE.mono (pe_or h h2) fun σ H Q hq => ?_
    obtain ⟨ρ, w, s, O, I, p⟩ := hq
    simp only [evb] at p
    refine tB_then I p fun k s1 H1 w1 I1 g1 p1 => ?_
    cases k with
    | true => exact iteT (Post.okS (rd := false) p1 I1.jok (rep_bl.rp false) rfl)
    | false => exact iteF ⟨ρ, w1, s1, O, I1, p1⟩
theorem tb_one {o : BoolOp} (h : PT X a (tT c W x)) : PW X (.BoolOp o [a] pos) (tTb c W o (.cons x .nil)) := by
  have key : ∀ σ H Q, tTb c W o (.cons x .nil) σ H Q → tT c W x σ H Q := fun σ H Q hq => by
    obtain ⟨ρ, w, s, O, I, p⟩ := hq
    refine ⟨ρ, w, s, O, I, ?_⟩
    simp only [evb, boolOf] at p
    cases r : ev c.G.fl false x ρ s with
    | ok y s' =>
      obtain ⟨dd, u⟩ := y
      rw [r] at p
      cases dd <;> exact p
    | exc cn fs s' => rw [r] at p; exact p
    | stk => rw [r] at p; exact p
  cases o with
  | And => exact PW.mono (pw_and1 h) key
  | Or => exact PW.mono (pw_or1 h) key
theorem boolOf_bind {r : R J Bool} {f : Bool → List J → R J (D × Bool)} : boolOf (r.bind f) = r.bind fun k s => boolOf (f k s) := by cases r <;> rfl
theorem tb_more {o : BoolOp} {bs : List Expr} (h : PT X a (tT c W x)) (h2 : PW X (.BoolOp o (b :: bs) pos) (tTb c W o (.cons y es))) : PW X (.BoolOp o (a :: b :: bs) pos) (tTb c W o (.cons x (.cons y es))) := by
  cases o with
  | And =>
    refine PW.mono (pw_and h h2) fun σ H Q hq => ?_
    obtain ⟨ρ, w, s, O, I, p⟩ := hq
    simp only [evb] at p
    rw [boolOf_bind] at p
    refine tT_thenT I p fun k s1 H1 w1 I1 g1 p1 => ?_
    cases k with
    | true => exact iteT ⟨ρ, w1, s1, O, I1, p1⟩
    | false => exact iteF ((show ∀ H' w', Go c.T O H1 w1 H' w' s1 → Q false H' from p1) H1 w1 (Go.refl I1.jok))
  | Or =>
    refine PW.mono (pw_or h h2) fun σ H Q hq => ?_
    obtain ⟨ρ, w, s, O, I, p⟩ := hq
    simp only [evb] at p
    rw [boolOf_bind] at p
    refine tT_thenT I p fun k s1 H1 w1 I1 g1 p1 => ?_
    cases k with
    | true => exact iteT ((show ∀ H' w', Go c.T O H1 w1 H' w' s1 → Q true H' from p1) H1 w1 (Go.refl I1.jok))
    | false => exact iteF ⟨ρ, w1, s1, O, I1, p1⟩
theorem e_bop {o : BoolOp} (h : PE X a (tEb c W o es)) : PE X a (tE c W rd (.bop o es)) := by
  refine PE.mono h fun σ H Q hq => ?_
  obtain ⟨ρ, w, s, O, I, p⟩ := hq
  simp only [ev] at p
  refine ⟨ρ, w, s, O, I, ?_⟩
  revert p
  cases r : evb c.G.fl o es ρ s with
  | ok y s' => exact fun p v H' w' g rp ow => p v H' w' g (rp.rep.rp rd) ow
  | exc cn fs s' => exact fun p => p
  | stk => exact fun p => p
theorem t_bop {o : BoolOp} (h : PW X a (tTb c W o es)) : PT X a (tT c W (.bop o es)) := by
  refine PT.mono h.pt fun σ H Q hq => ?_
  obtain ⟨ρ, w, s, O, I, p⟩ := hq
  simp only [ev] at p
  exact ⟨ρ, w, s, O, I, p⟩
theorem t_val {e : Expr} (h : PE X e (tE c W false x)) (he : ∀ whole, isTrue e X.env whole = (do let v ← whole; standAt e.pos; holding [v] (truthy v))) : PT X e (tT c W x) := by
  refine PT.mono (pt_val h he) fun σ H Q hq => ?_
  obtain ⟨ρ, w, s, O, I, p⟩ := hq
  exact ⟨ρ, w, s, O, I, Post.toB p⟩
theorem e_ife (hc : PT X d (tT c W z)) (ha : PE X a (tE c W false x)) (hb : PE X b (tE c W false y)) : PE X (.IfExp d a b pos) (tE c W rd (.ife z x y)) := by
  refine PE.mono (pe_ifExp hc ha hb) fun σ H Q hq => ?_
  obtain ⟨ρ, w, s, O, I, p⟩ := hq
  simp only [ev] at p
  refine tT_then I p fun k s1 H1 w1 I1 g1 p1 => ?_
  cases k with
  | true => exact iteT (tE_then I1 (rd' := rd) (f := fun x s => .ok (x.1, false) s) p1 fun x2 s2 v2 H2 w2 I2 g2 r2 _ p2 => p2.okS I2.jok (r2.rep.rp rd) rfl)
  | false => exact iteF (tE_then I1 (rd' := rd) (f := fun x s => .ok (x.1, false) s) p1 fun x2 s2 v2 H2 w2 I2 g2 r2 _ p2 => p2.okS I2.jok (r2.rep.rp rd) rfl)

/-! ### lists of expressions, displays -/
theorem a_nil : PA X [] (tA c W rd (.nil : Es J)) := PA.mono pa_nil fun σ H Q hq => by
  obtain ⟨ρ, w, s, O, I, p⟩ := hq
  simp only [evs] at p
  exact (show ∀ vs H' w', Go c.T O H w H' w' s → RpL c.G O w' H' rd [] vs → Q vs H' from p) [] H w (Go.refl I.jok) rfl
theorem a_cons {as : List Expr} (h : PE X a (tE c W rd x)) (h2 : PA X as (tA c W rd es)) (hp : plE a = true) : PA X (a :: as) (tA c W rd (.cons x es)) := by
  refine PA.mono (pa_cons h h2 (pl_star hp as)) fun σ H Q hq => ?_
  obtain ⟨ρ, w, s, O, I, p⟩ := hq
  simp only [evs] at p
  refine ⟨ρ, w, s, O, I, Post.bindL p fun x1 s1 v1 H1 w1 g1 r1 p1 => ⟨ρ, w1, s1, O, I.step g1, PostL.bindL p1 fun xs s2 vs H2 w2 g2 r2 p2 => ?_⟩⟩
  exact (show ∀ vs H' w', Go c.T O H2 w2 H' w' s2 → RpL c.G O w' H' rd (x1.1 :: xs) vs → Q vs H' from p2) _ H2 w2 (Go.refl ((I.step g1).step g2).jok) ⟨v1, vs, rfl, r1.go g2, r2⟩
theorem tA_then {σ : St} {H : Hp} {Q : VK} {Q1 : List V → Hp → Prop} {ρ : Env} {w : Ws} {s : List J} {O : Addr → Prop} {r rd' : Bool} {f : List D → List J → R J (D × Bool)} (I : EI c ρ σ H w s O)
    (h : Post c.T c.G W σ O H w rd' ((evs c.G.fl r es ρ s).bind f) Q)
    (k : ∀ xs s1 vs H1 w1, EI c ρ σ H1 w1 s1 O → Go c.T O H w H1 w1 s1 → RpL c.G O w1 H1 r xs vs → Post c.T c.G W σ O H1 w1 rd' (f xs s1) Q → Q1 vs H1) : tA c W r es σ H Q1 :=
  ⟨ρ, w, s, O, I, PostL.bind h fun x s1 v H1 w1 g rp p => k x s1 v H1 w1 (I.step g) g rp p⟩
theorem e_tup {as : List Expr} {k1} (h : PA X as (tA c W false es)) : PE X (.Tuple as k1 pos) (tE c W rd (.tup es)) := by
  refine PE.mono (pe_tup h) fun σ H Q hq => ?_
  obtain ⟨ρ, w, s, O, I, p⟩ := hq
  simp only [ev] at p
  refine tA_then I p fun xs s1 vs H1 w1 I1 g1 r1 p1 => ?_
  split at p1
  · rename_i hl
    have h1 := r1.length
    exact ⟨by rw [sizeLine_eq]; omega, fun q hq => p1.newT I1.oo I1.jok r1.reps q hq⟩
  · exact p1.elim
theorem e_lst {as : List Expr} (h : PA X as (tA c W false es)) : PE X (.List as pos) (tE c W rd (.lst es)) := by
  refine PE.mono (pe_lst h) fun σ H Q hq => ?_
  obtain ⟨ρ, w, s, O, I, p⟩ := hq
  simp only [ev] at p
  refine tA_then I p fun xs s1 vs H1 w1 I1 g1 r1 p1 => ?_
  split at p1
  · rename_i hl
    have h1 := r1.length
    exact ⟨by rw [sizeLine_eq]; omega, fun q hq => p1.newL I1.oo I1.jok r1.reps q hq⟩
  · exact p1.elim

/-! ### items, slices -/
theorem atD_at {G : Gs} {O : Addr → Prop} {w : Ws} {H : Hp} {ds : List D} {vs : List V} {k : Int} {dd : D} (h : Reps G O w H ds vs) (e : atD ds k = some dd) : ∃ v, atI vs k = some v ∧ Rep G O w H dd v := by
  unfold atD at e
  unfold atI
  rw [show ixN vs.length k = ixOf ds.length k by rw [← h.length]; rfl]
  cases q : ixOf ds.length k with
  | none => rw [q] at e; cases e
  | some j =>
    rw [q] at e
    exact h.get e
theorem e_sub (hK : X.K = c.G.K) (ha : PE X a (tE c W true x)) (hb : PE X b (tE c W false y)) (hp : plE b = true) : PE X (.Subscript a b pos) (tE c W rd (.sub x y)) := by
  refine PE.mono (pe_ix (IxR.or ix_list ix_tup) ha hb (pl_ix hp)) fun σ H Q hq => ?_
  obtain ⟨ρ, w, s, O, I, p⟩ := hq
  simp only [ev] at p
  refine tE_then I p fun x1 s1 v1 H1 w1 I1 g1 r1 _ p1 => tE_int (α := Unit) I1 p1 fun k s2 H2 w2 I2 g2 p2 => ?_
  cases e : itemsOf x1.1 with
  | none => rw [e] at p2; exact p2.elim
  | some ds =>
    rw [e] at p2
    cases e2 : atD ds k with
    | none => simp only [e2, Option.bind_some, Option.map_none, liftO] at p2; exact p2.elim
    | some dd =>
      simp only [e2, Option.bind_some, Option.map_some, liftO] at p2
      obtain ⟨ad, vs, ev1, hs, rs⟩ := (r1.go g2).items e
      obtain ⟨v, hv, rv⟩ := atD_at rs e2
      subst ev1
      have q := p2.okS I2.jok (rv.rp rd) rfl
      rcases hs with hs | hs
      · exact .inl ⟨ad, vs, k, v, rfl, rfl, by rw [hK]; exact hs, hv, q⟩
      · exact .inr ⟨ad, vs, k, v, rfl, rfl, by rw [hK]; exact hs, hv, q⟩
theorem cut_eq (ds : List D) (vs : List V) (h : ds.length = vs.length) (lo hi : Option Int) : cutAt ds.length 0 lo = HT.sIx vs.length 0 lo ∧ cutAt ds.length ds.length hi = HT.sIx vs.length vs.length hi := by
  rw [h]
  constructor
  · cases lo <;> rfl
  · cases hi <;> rfl
/-- a bound of a slice -/
def tO (c : Cf J) (W : WX) (e : E J) : TO := fun σ H Q => ∃ ρ w s O, EI c ρ σ H w s O ∧ PostT c.T c.G W σ O H w (if isSkip e then R.ok none s else (intOf (ev c.G.fl false e ρ s)).bind fun i s => .ok (some i) s) Q
theorem o_none : PO X none (tO c W (.skip : E J)) := PO.mono po_none fun σ H Q hq => by
  obtain ⟨ρ, w, s, O, I, p⟩ := hq
  exact (show ∀ H' w', Go c.T O H w H' w' s → Q none H' from p) H w (Go.refl I.jok)
theorem o_some (h : PE X a (tE c W false x)) (hs : isSkip x = false) : PO X (some a) (tO c W x) := PO.mono (po_some h) fun σ H Q hq => by
  obtain ⟨ρ, w, s, O, I, p⟩ := hq
  rw [hs, if_neg Bool.false_ne_true] at p
  refine ⟨ρ, w, s, O, I, ?_⟩
  have p2 : PostT c.T c.G W σ O H w (intOf (ev c.G.fl false x ρ s)) (fun i H1 => Q (some i) H1) :=
    PostT.bindT p fun i s1 H1 w1 g q => (show ∀ H' w', Go c.T O H1 w1 H' w' s1 → Q (some i) H' from q) H1 w1 (Go.refl (I.step g).jok)
  exact Post.toI p2
theorem cut_reps {G : Gs} {O : Addr → Prop} {w : Ws} {H : Hp} {ds : List D} {vs : List V} (rs : Reps G O w H ds vs) (lo hi : Option Int) : Reps G O w H (cutL ds lo hi) (cutV vs lo hi) := by
  obtain ⟨c1, c2⟩ := cut_eq ds vs rs.length lo hi
  unfold cutL cutV
  rw [c1, c2]
  exact (rs.drop _).take _
theorem e_slc {l u : Option Expr} {lo hi : E J} {p2 : Pos} (hK : X.K = c.G.K) (ha : PE X a (tE c W true x)) (hl : PO X l (tO c W lo)) (hu : PO X u (tO c W hi)) : PE X (.Subscript a (.Slice l u none p2) pos) (tE c W rd (.slc x lo hi)) := by
  refine PE.mono (pe_slice (SlR.or sl_list sl_tupA) ha hl hu) fun σ H Q hq => ?_
  obtain ⟨ρ, w, s, O, I, p⟩ := hq
  simp only [ev] at p
  refine tE_then I p fun x1 s1 v1 H1 w1 I1 g1 r1 _ p1 => ⟨ρ, w1, s1, O, I1, PostT.bind p1 fun lw s2 H2 w2 g2 p2 => ⟨ρ, w2, s2, O, I1.step g2, PostT.bind p2 fun hw s3 H3 w3 g3 p3 => ?_⟩⟩
  have I3 := (I1.step g2).step g3
  have r3 := (r1.go g2).go g3
  obtain ⟨xd, xu⟩ := x1
  cases xd with
  | lst ds =>
    obtain ⟨ad, vs, ev1, ha, _, rs⟩ := r3.lst
    subst ev1
    exact .inl ⟨ad, vs, rfl, SqL.of ha, fun q hq => Post.newL p3 I3.oo I3.jok (cut_reps rs lw hw) q hq⟩
  | scr ds =>
    obtain ⟨ad, vs, ev1, ha, rs⟩ := r3.non fun _ z => nomatch z
    subst ev1
    exact .inl ⟨ad, vs, rfl, by rw [hK]; exact ha.sq, fun q hq => Post.newL p3 I3.oo I3.jok (cut_reps rs lw hw) q hq⟩
  | tup ds =>
    obtain ⟨ad, vs, ev1, ha, rs⟩ := r3.tup
    subst ev1
    refine .inr ⟨ad, vs, rfl, by rw [hK]; exact ha.sq, fun hx => ?_, fun _ q hq => Post.newT p3 I3.oo I3.jok (cut_reps rs lw hw) q hq⟩
    obtain ⟨c1, c2⟩ := cut_eq ds vs rs.length lw hw
    refine Post.okS p3 I3.jok (Rep.rp (show Rep c.G O w3 H3 (.tup (cutL ds lw hw)) (.ref ad) from ⟨ad, vs, rfl, ha, ?_⟩) rd) rfl
    have hc : cutL ds lw hw = ds := by
      unfold cutL
      rw [c1, c2, hx.1, hx.2, ← rs.length]
      simp
    rw [hc]
    exact rs
  | _ => exact p3.elim
theorem e_rev {p1 p2 p3 : Pos} {k : Nat} (hK : X.K = c.G.K) (ha : PE X a (tE c W true x)) : PE X (.Subscript a (.Slice none none (some (.UnaryOp .USub (.Constant (.int 1) k p1) p2)) p3) pos) (tE c W rd (.rev x)) := by
  refine PE.mono (pe_revL ha) fun σ H Q hq => ?_
  obtain ⟨ρ, w, s, O, I, p⟩ := hq
  simp only [ev] at p
  refine tE_then I p fun x1 s1 v1 H1 w1 I1 g1 r1 _ p1 => ?_
  obtain ⟨xd, xu⟩ := x1
  cases xd with
  | lst ds =>
    obtain ⟨ad, vs, ev1, ha, _, rs⟩ := r1.lst
    exact ⟨ad, vs, ev1, SqL.of ha, fun q hq => Post.newL p1 I1.oo I1.jok rs.reverse q hq⟩
  | _ => exact p1.elim
end
end DL

set_option Elab.async false
set_option linter.all false
set_option maxRecDepth 100000
set_option maxHeartbeats 4000000
/-! The data layer, part h: built-in functions, isinstance, fields, calls. -/
namespace DL
open PySem PySem.Spec PyProof.Rows L2
variable {J : Type}

theorem pl_any {as : List Expr} {env : PySem.Env} {pos : Pos} (h : ∀ a ∈ as, plE a = true) : (backTo pos (starEach as env)).any (·.1) = false := by
  induction as with
  | nil => rfl
  | cons a r ih =>
    rw [pl_star (h a List.mem_cons_self)]
    have q := ih fun b hb => h b (List.mem_cons_of_mem _ hb)
    exact q
/-- what the text is -/
structure Tx where
  P : Program
  w : World
  K : PySem.W.Frag
  mg : Str → Option Value
  base : Heap
def tyT : List String := ["int", "bool", "str", "tuple", "list"]
/-- what is known of the classes of instances -/
structure ClsOk (K : PySem.W.Frag) (G : Gs) : Prop where
  cls : ∀ c C, G.ca c = some C → Cls K C
  na : ∀ c C f, G.ca c = some C → f ∈ G.fl c → NoAttr K C f
  isa : ∀ c C, G.ca c = some C → PySem.W.findIn K (.ref C) "__class__" = some (some (.builtin "object.__class__"))
  isg : ∀ c C, G.ca c = some C → PySem.W.specialIn K (.builtin "object.__class__") "__get__" = some (some (.builtin "getset_descriptor.__get__"))
  ist : ∀ c C, G.ca c = some C → PySem.W.takesIn K (.builtin "object.__class__") = some true
  ism : ∀ c C, G.ca c = some C → PySem.W.mroIn K C (.type "object") = some true
  isb : ∀ c C, G.ca c = some C → c ∉ tyNames ∧ ∀ t ∈ tyT, PySem.W.kitOne K (.ref C) (.type t) = some false
/-- a context, what is wanted of an exception there; h: one is handled; k: how deep calls may go -/
structure Gd (t : Tx) (h : Bool) (k : Nat) (X : Cx) (W : WX) : Prop where
  pr : X.prog = t.P
  wd : X.w = t.w
  K : X.K = t.K
  mg : X.mg = t.mg
  base : X.base = t.base
  nd : X.N.Nodup
  tk : L2N.Takes X W
  room : L2H.RoomH k X.A
  cold : h = false → X.calm = true ∧ X.A.handled = none
  gr : h = false → X.A.guards = some []
  hot : h = true → L2H.HotC X ∧ W = fun _ _ _ _ => False
theorem Gd.un {t : Tx} {h : Bool} {k : Nat} {X : Cx} {W : WX} (g : Gd t h k X W) : X.A.units + 64 < cLine := by have := g.room.un; omega

section
variable {c : Cf J} {W : WX} {X : Cx} {rd : Bool} {a b d : Expr} {as : List Expr} {x y z : E J} {p pos : Pos} {es : Es J}
def DRule (c : Cf J) (f : Str) (r : List V → Hp → VK → Prop) : Prop := ∀ {O : Addr → Prop} {w : Ws} {H : Hp} {s : List J} {ds : List D} {vs : List V} {z : D × Bool} {W : WX} {σ : St} {rd : Bool} {Q : VK},
  biD f ds = some z → OOk O w H → JOk c.T O H w s → RpL c.G O w H true ds vs → Post c.T c.G W σ O H w rd (.ok z s) Q → r vs H Q
theorem bi_post {f : Str} {r : List V → Hp → VK → Prop} (hr : DRule c f r) (h : PE X a (tCB r (tA c W true es))) : PE X a (tE c W rd (.bi f es)) := by
  refine PE.mono h fun σ H Q hq => ?_
  obtain ⟨ρ, w, s, O, I, p⟩ := hq
  simp only [ev] at p
  refine tA_then I p fun xs s1 vs H1 w1 I1 g1 r1 p1 => ?_
  cases e : biD f xs with
  | none => rw [e] at p1; exact p1.elim
  | some z => rw [e] at p1; exact hr e I1.oo I1.jok r1 p1
theorem len_rule (hK : X.K = c.G.K) : DRule c "len" (fun xs H Q => ∃ x n, xs = [x] ∧ LenV X.K x H n ∧ Q (.int n) H) := by
  intro O w H s ds vs z W σ rd Q hz oo jo hr p
  simp only [biD, if_true] at hz
  split at hz
  · cases hz
    obtain ⟨v, rfl, h1⟩ := hr.one
    obtain ⟨ad, us, rfl, ha, _, rs⟩ := h1.lst
    exact ⟨_, us.length, rfl, .inl ⟨us, SqL.of ha, rfl⟩, by rw [← rs.length]; exact p.okS jo (rep_int.rp rd) rfl⟩
  · cases hz
    obtain ⟨v, rfl, h1⟩ := hr.one
    obtain ⟨ad, us, rfl, ha, rs⟩ := h1.non fun _ z => nomatch z
    exact ⟨_, us.length, rfl, .inl ⟨us, by rw [hK]; exact ha.sq, rfl⟩, by rw [← rs.length]; exact p.okS jo (rep_int.rp rd) rfl⟩
  · cases hz
    obtain ⟨v, rfl, h1⟩ := hr.one
    obtain ⟨ad, us, rfl, ha, rs⟩ := h1.tup
    exact ⟨_, us.length, rfl, .inr ⟨us, by rw [hK]; exact ha.sq, rfl⟩, by rw [← rs.length]; exact p.okS jo (rep_int.rp rd) rfl⟩
  · rename_i st
    split at hz
    · rename_i hl
      cases hz
      obtain ⟨v, rfl, h1⟩ := hr.one
      exact ⟨_, st.length, rfl, by rw [h1.str]; exact ⟨by rw [sizeLine_eq]; exact hl, rfl⟩, p.okS jo (rep_int.rp rd) rfl⟩
    · cases hz
  · cases hz
theorem abs_rule : DRule c "abs" (fun xs H Q => ∃ i, xs = [.int i] ∧ Q (.int (if i < 0 then -i else i)) H) := by
  intro O w H s ds vs z W σ rd Q hz oo jo hr p
  simp only [biD, show ¬ (("abs" : Str) = "len") by decide, if_false, if_true] at hz
  split at hz
  · cases hz
    obtain ⟨v, rfl, h1⟩ := hr.one
    exact ⟨_, by rw [h1.int], p.okS jo (rep_int.rp rd) rfl⟩
  · cases hz
theorem int_rule : DRule c "int" (fun xs H Q => (∃ i, xs = [.int i] ∧ Q (.int i) H) ∨ ∃ k, xs = [.bl k] ∧ Q (.int (if k then 1 else 0)) H) := by
  intro O w H s ds vs z W σ rd Q hz oo jo hr p
  simp only [biD, show ¬ (("int" : Str) = "len") by decide, show ¬ (("int" : Str) = "abs") by decide, if_false, if_true] at hz
  split at hz
  · cases hz
    obtain ⟨v, rfl, h1⟩ := hr.one
    exact .inl ⟨_, by rw [h1.int], p.okS jo (rep_int.rp rd) rfl⟩
  · cases hz
    obtain ⟨v, rfl, h1⟩ := hr.one
    exact .inr ⟨_, by rw [h1.bl], p.okS jo (rep_int.rp rd) rfl⟩
  · cases hz
theorem max_rule : DRule c "max" (fun xs H Q => ∃ i j, xs = [.int i, .int j] ∧ Q (.int (if j > i then j else i)) H) := by
  intro O w H s ds vs z W σ rd Q hz oo jo hr p
  simp only [biD, show ¬ (("max" : Str) = "len") by decide, show ¬ (("max" : Str) = "abs") by decide, show ¬ (("max" : Str) = "int") by decide, if_false, if_true] at hz
  split at hz
  · cases hz
    obtain ⟨u, v, rfl, h1, h2⟩ := hr.two
    exact ⟨_, _, by rw [h1.int, h2.int], p.okS jo (rep_int.rp rd) rfl⟩
  · cases hz
theorem min_rule : DRule c "min" (fun xs H Q => ∃ i j, xs = [.int i, .int j] ∧ Q (.int (if j < i then j else i)) H) := by
  intro O w H s ds vs z W σ rd Q hz oo jo hr p
  simp only [biD, show ¬ (("min" : Str) = "len") by decide, show ¬ (("min" : Str) = "abs") by decide, show ¬ (("min" : Str) = "int") by decide, show ¬ (("min" : Str) = "max") by decide, if_false, if_true] at hz
  split at hz
  · cases hz
    obtain ⟨u, v, rfl, h1, h2⟩ := hr.two
    exact ⟨_, _, by rw [h1.int, h2.int], p.okS jo (rep_int.rp rd) rfl⟩
  · cases hz
theorem tuple_rule (hK : X.K = c.G.K) : DRule c "tuple" (fun xs H Q => ∃ p ys, xs = [.ref p] ∧ ((SqL X.K H p ys ∧ ∀ l, H l = none → Q (.ref l) (upd H l (.tup ys))) ∨ (SqT X.K H p ys ∧ Q (.ref p) H))) := by
  intro O w H s ds vs z W σ rd Q hz oo jo hr p
  simp only [biD, show ¬ (("tuple" : Str) = "len") by decide, show ¬ (("tuple" : Str) = "abs") by decide, show ¬ (("tuple" : Str) = "int") by decide, show ¬ (("tuple" : Str) = "max") by decide, show ¬ (("tuple" : Str) = "min") by decide, if_false, if_true] at hz
  split at hz
  · cases hz
    obtain ⟨v, rfl, h1⟩ := hr.one
    obtain ⟨ad, us, rfl, ha, _, rs⟩ := h1.lst
    exact ⟨_, us, rfl, .inl ⟨SqL.of ha, fun q hq => p.newT oo jo rs q hq⟩⟩
  · cases hz
    obtain ⟨v, rfl, h1⟩ := hr.one
    obtain ⟨ad, us, rfl, ha, rs⟩ := h1.non fun _ z => nomatch z
    exact ⟨_, us, rfl, .inl ⟨by rw [hK]; exact ha.sq, fun q hq => p.newT oo jo rs q hq⟩⟩
  · cases hz
    obtain ⟨v, rfl, h1⟩ := hr.one
    have h2 := h1
    obtain ⟨ad, us, rfl, ha, rs⟩ := h1.tup
    exact ⟨_, us, rfl, .inr ⟨by rw [hK]; exact ha.sq, p.okS jo ((h2.non fun _ z => nomatch z).rp rd) rfl⟩⟩
  · cases hz
theorem list_rule (hK : X.K = c.G.K) : DRule c "list" (fun xs H Q => ∃ p ys, xs = [.ref p] ∧ (SqL X.K H p ys ∨ SqT X.K H p ys) ∧ ∀ l, H l = none → Q (.ref l) (upd H l (.lst ys))) := by
  intro O w H s ds vs z W σ rd Q hz oo jo hr p
  simp only [biD, show ¬ (("list" : Str) = "len") by decide, show ¬ (("list" : Str) = "abs") by decide, show ¬ (("list" : Str) = "int") by decide, show ¬ (("list" : Str) = "max") by decide, show ¬ (("list" : Str) = "min") by decide, show ¬ (("list" : Str) = "tuple") by decide, if_false, if_true] at hz
  split at hz
  · cases hz
    obtain ⟨v, rfl, h1⟩ := hr.one
    obtain ⟨ad, us, rfl, ha, _, rs⟩ := h1.lst
    exact ⟨_, us, rfl, .inl (SqL.of ha), fun q hq => p.newL oo jo rs q hq⟩
  · cases hz
    obtain ⟨v, rfl, h1⟩ := hr.one
    obtain ⟨ad, us, rfl, ha, rs⟩ := h1.non fun _ z => nomatch z
    exact ⟨_, us, rfl, .inl (by rw [hK]; exact ha.sq), fun q hq => p.newL oo jo rs q hq⟩
  · cases hz
    obtain ⟨v, rfl, h1⟩ := hr.one
    obtain ⟨ad, us, rfl, ha, rs⟩ := h1.tup
    exact ⟨_, us, rfl, .inr (by rw [hK]; exact ha.sq), fun q hq => p.newL oo jo rs q hq⟩
  · cases hz
theorem boot_max' : bootBuiltins "max" = some (.builtin "max") := by decide +kernel
theorem boot_min' : bootBuiltins "min" = some (.builtin "min") := by decide +kernel
theorem boot_abs' : bootBuiltins "abs" = some (.builtin "abs") := by decide +kernel
theorem boot_len' : bootBuiltins "len" = some (.builtin "len") := by decide +kernel
theorem boot_int' : bootBuiltins "int" = some (.type "int") := by decide +kernel
theorem boot_tuple' : bootBuiltins "tuple" = some (.type "tuple") := by decide +kernel
theorem boot_list' : bootBuiltins "list" = some (.type "list") := by decide +kernel
theorem boot_isi' : bootBuiltins "isinstance" = some (.builtin "isinstance") := by decide +kernel
theorem e_bi {f : Str} (hf : f ∈ biFs) (gl : Gl X f) (hm : X.mg f = none) (hK : X.K = c.G.K) (hc : X.calm = true ∨ (f ≠ "max" ∧ f ≠ "min")) (h1 : plE a = true) (h2 : ∀ b ∈ as, plE b = true) (ha : PA X (a :: as) (tA c W true es)) : PE X (.Call (.Name f p) (a :: as) [] pos) (tE c W rd (.bi f es)) := by
  have he := pl_star (env := X.env) h1 as
  have hpl := pl_any (env := X.env) (pos := pos) h2
  unfold biFs at hf
  simp only [List.mem_cons, List.not_mem_nil, or_false] at hf
  rcases hf with rfl | rfl | rfl | rfl | rfl | rfl | rfl
  · exact bi_post (len_rule (X := X) hK) (pe_callB call_len gl hm boot_len' ha (he := he) (hpl := hpl))
  · exact bi_post abs_rule (pe_callB call_abs gl hm boot_abs' ha (he := he) (hpl := hpl))
  · exact bi_post int_rule (pe_callTy call_int1 gl hm boot_int' ha (he := he) (hpl := hpl))
  · exact bi_post max_rule (pe_callB (call_max2 (hc.elim id fun z => absurd rfl z.1)) gl hm boot_max' ha (he := he) (hpl := hpl))
  · exact bi_post min_rule (pe_callB (call_min2 (hc.elim id fun z => absurd rfl z.2)) gl hm boot_min' ha (he := he) (hpl := hpl))
  · exact bi_post (tuple_rule (X := X) hK) (pe_callTy call_tuple_of gl hm boot_tuple' ha (he := he) (hpl := hpl))
  · exact bi_post (list_rule (X := X) hK) (pe_callTy call_list_of gl hm boot_list' ha (he := he) (hpl := hpl))
end
end DL

set_option Elab.async false
set_option linter.all false
set_option maxRecDepth 100000
set_option maxHeartbeats 4000000
/-! The data layer, part i: isinstance, fields, calls. -/
namespace DL
open PySem PySem.Spec PyProof.Rows L2
variable {J : Type}

def tyS : List (Str × String) := [("int", "int"), ("bool", "bool"), ("str", "str"), ("tuple", "tuple"), ("list", "list")]
theorem boot_ty : ∀ p ∈ tyS, bootBuiltins p.1 = some (.type p.2) := by
  intro p hp
  unfold tyS at hp
  simp only [List.mem_cons, List.not_mem_nil, or_false] at hp
  rcases hp with rfl | rfl | rfl | rfl | rfl <;> decide +kernel
theorem tyS_of {t : Str} (h : t ∈ tyNames) : ∃ T, (t, T) ∈ tyS ∧ T ∈ tyT := by
  unfold tyNames at h
  simp only [List.mem_cons, List.not_mem_nil, or_false] at h
  rcases h with rfl | rfl | rfl | rfl | rfl
  · exact ⟨"int", by simp [tyS], by simp [tyT]⟩
  · exact ⟨"bool", by simp [tyS], by simp [tyT]⟩
  · exact ⟨"str", by simp [tyS], by simp [tyT]⟩
  · exact ⟨"tuple", by simp [tyS], by simp [tyT]⟩
  · exact ⟨"list", by simp [tyS], by simp [tyT]⟩
theorem isi_tab : ∀ p ∈ tyS, kitB "NoneType" p.2 = some (decide (p.1 = "NoneType")) ∧ kitB "bool" p.2 = some (decide (p.1 = "bool") || decide (p.1 = "int")) ∧ kitB "int" p.2 = some (decide (p.1 = "int")) ∧ kitB "str" p.2 = some (decide (p.1 = "str")) ∧
    kitB "tuple" p.2 = some (decide (p.1 = "tuple")) ∧ kitB "list" p.2 = some (decide (p.1 = "list")) := by
  intro p hp
  unfold tyS at hp
  simp only [List.mem_cons, List.not_mem_nil, or_false] at hp
  rcases hp with rfl | rfl | rfl | rfl | rfl <;> decide +kernel
section
variable {c : Cf J} {W : WX} {X : Cx} {rd : Bool} {a b d : Expr} {as : List Expr} {x y z : E J} {p p2 p3 p4 pos : Pos} {es kes : Es J}
theorem isi_all {G : Gs} {O : Addr → Prop} {w : Ws} {H : Hp} {dd : D} {v : V} (hC : ClsOk G.K G) (hs : ∀ ds, dd ≠ .scr ds) (hb : ∀ k, dd ≠ .box k) (h : Rp G O w H true dd v) :
    ∃ ty, TyX G.K H v ty ∧ ∀ (t : Str) (T : String) (r : Bool), (t, T) ∈ tyS → T ∈ tyT → t ∈ tyNames → isiD dd t = some r → PySem.W.kitOne G.K ty (.type T) = some r := by
  cases dd with
  | non => cases h.noneD; exact ⟨_, .base .non, fun t T r ht _ _ e => by cases e; exact kit_ty (isi_tab _ ht).1⟩
  | bl b => cases h.bl; exact ⟨_, .base (.bl b), fun t T r ht _ _ e => by cases e; exact kit_ty (isi_tab _ ht).2.1⟩
  | int b => cases h.int; exact ⟨_, .base (.int b), fun t T r ht _ _ e => by cases e; exact kit_ty (isi_tab _ ht).2.2.1⟩
  | str b => cases h.str; exact ⟨_, .base (.str b), fun t T r ht _ _ e => by cases e; exact kit_ty (isi_tab _ ht).2.2.2.1⟩
  | tup ds =>
    obtain ⟨ad, vs, rfl, ha, _⟩ := h.tup
    rcases ha with ⟨ha, _⟩ | ⟨o, its, n, h1, h2, _⟩
    · exact ⟨_, .base (.tup ha), fun t T r ht _ _ e => by cases e; exact kit_ty (isi_tab _ ht).2.2.2.2.1⟩
    · exact ⟨_, .kTuple h1 h2, fun t T r ht _ _ e => by cases e; exact kit_ty (isi_tab _ ht).2.2.2.2.1⟩
  | lst ds =>
    obtain ⟨ad, vs, rfl, ha, _⟩ := h.lst
    exact ⟨_, .base (.lst ha), fun t T r ht _ _ e => by cases e; exact kit_ty (isi_tab _ ht).2.2.2.2.2⟩
  | scr ds => exact absurd rfl (hs ds)
  | ins cn fs =>
    obtain ⟨ad, C, dx, vs, rfl, hc, ha, _⟩ := h.non fun _ z => nomatch z
    refine ⟨_, .base (.ins ha (hC.cls _ _ hc) (hC.isa _ _ hc) (hC.isg _ _ hc) (hC.ist _ _ hc) (hC.ism _ _ hc)), fun t T r ht hT htn e => ?_⟩
    cases e
    obtain ⟨h1, h2⟩ := hC.isb _ _ hc
    rw [h2 T hT]
    have : t ≠ tyD (.ins cn fs) := fun q => h1 ((show t = cn from q) ▸ htn)
    simp [this]
  | box k => exact absurd rfl (hb k)
theorem isi_ty {G : Gs} {O : Addr → Prop} {w : Ws} {H : Hp} {dd : D} {v : V} {t : Str} {T : String} {r : Bool} (hC : ClsOk G.K G) (ht : (t, T) ∈ tyS) (hT : T ∈ tyT) (htn : t ∈ tyNames) (e : isiD dd t = some r) (h : Rp G O w H true dd v) : ∃ ty, TyX G.K H v ty ∧ PySem.W.kitOne G.K ty (.type T) = some r := by
  obtain ⟨ty, h1, h2⟩ := isi_all hC (fun ds q => by rw [q] at e; cases e) (fun k q => by rw [q] at e; cases e) h
  exact ⟨ty, h1, h2 _ _ _ ht hT htn e⟩
theorem e_isi {t : Str} (hK : X.K = c.G.K) (hC : ClsOk c.G.K c.G) (ht : t ∈ tyNames) (gi : Gl X "isinstance") (mi : X.mg "isinstance" = none) (gt : Gl X t) (mt : X.mg t = none) (h1 : plE a = true) (ha : PE X a (tE c W true x)) :
    PE X (.Call (.Name "isinstance" p) [a, .Name t p2] [] pos) (tE c W rd (.isi x t)) := by
  obtain ⟨T, hT, hT2⟩ := tyS_of ht
  have hn : t ≠ "__name__" ∧ (t == ("__debug__" : Str)) = false := by
    unfold tyNames at ht
    simp only [List.mem_cons, List.not_mem_nil, or_false] at ht
    rcases ht with rfl | rfl | rfl | rfl | rfl <;> exact ⟨by decide, by decide⟩
  have pt : PE X (.Name t p2) (tC (.ty T)) := pe_bltn gt mt (boot_ty _ hT) rfl hn.1 hn.2
  refine PE.mono (pe_callB call_isi gi mi boot_isi' (pa_cons ha (pa_cons pt pa_nil) (pl_star h1 _)) (he := pl_star h1 _) (hpl := rfl)) fun σ H Q hq => ?_
  obtain ⟨ρ, w, s, O, I, p⟩ := hq
  simp only [ev] at p
  refine tE_then I p fun x1 s1 v1 H1 w1 I1 g1 r1 _ p1 => ?_
  cases e : isiD x1.1 t with
  | none => rw [e] at p1; exact p1.elim
  | some k =>
    rw [e] at p1
    obtain ⟨ty, k1, k2⟩ := isi_ty hC hT hT2 ht e r1
    exact ⟨v1, .ty T, ty, .type T, k, rfl, .ty T, by rw [hK]; exact k1, by rw [hK]; exact k2, p1.okS I1.jok (rep_bl.rp rd) rfl⟩
/-! ### repr -/
def rRep (K : PySem.W.Frag) : List V → Hp → VK → Prop := fun xs H Q => ∃ (a : Addr) (d : PyData), xs = [.ref a] ∧ Dp K H (.ref a) d ∧ d.showable = true ∧ d.canLay0 = true ∧ d.depth ≤ 64 ∧ d.shown.length ≤ sizeLine ∧ Q (.str d.shown) H
theorem call_rep {X : Cx} (hg : X.A.guards = some []) (hu : X.A.units + 200 < cLine) : CallR X (.builtin "repr") (rRep X.K) := by
  intro pins s σ H xs us Q I r h
  obtain ⟨a, d, rfl, hd, h1, h2, h3, h4, q⟩ := h
  obtain ⟨u, rfl, ru⟩ := vals1 r
  cases (show u = Value.ref a from ru)
  obtain ⟨as, rr⟩ := Dp.reads I d _ _ hd (show RelV (.ref a) (.ref a) from rfl)
  exact repr_of_reads' rr h1 (PyData.noDict_hsm (PyData.hasDict_of_canLay d h2)) hg (by omega) (fun _ _ e => e) (fun h' u tk k => ⟨.str d.shown, H, I.kept k, ⟨_, rfl⟩, q⟩) h4
theorem boot_repr' : bootBuiltins "repr" = some (.builtin "repr") := by decide +kernel
theorem rp_ok {G : Gs} {O : Addr → Prop} {w : Ws} {H : Hp} {rd : Bool} {d : D} {v : V} (h : rpOk d = true) (r : Rp G O w H rd d v) : ∃ a, v = .ref a ∧ Dp G.K H (.ref a) (toPy d) ∧ (toPy d).showable = true ∧ (toPy d).canLay0 = true ∧ (toPy d).depth ≤ 64 ∧ (toPy d).shown.length ≤ sizeLine := by
  unfold rpOk at h
  simp only [Bool.and_eq_true, decide_eq_true_eq] at h
  obtain ⟨⟨⟨h1, h2⟩, h3⟩, h4⟩ := h
  obtain ⟨k1, k2⟩ := plain_lay d 60 h2
  have hd := r.dp h2
  cases d with
  | lst ds =>
    obtain ⟨a, vs, rfl, _⟩ := r.lst
    exact ⟨a, rfl, hd, h3, k1, by omega, by rw [sizeLine_eq]; exact h4⟩
  | tup ds =>
    obtain ⟨a, vs, rfl, _⟩ := r.tup
    exact ⟨a, rfl, hd, h3, k1, by omega, by rw [sizeLine_eq]; exact h4⟩
  | _ => cases h1
theorem e_rpe {q1 q2 q3 q4 : Pos} (hK : X.K = c.G.K) (hg : X.A.guards = some []) (hu : X.A.units + 200 < cLine) (gi : Gl X "repr") (mi : X.mg "repr" = none) (h1 : plE a = true) (h2 : plE b = true) (ha : PE X a (tE c W true x)) (hb : PE X b (tE c W true y)) :
    PE X (.Compare (.Call (.Name "repr" q1) [a] [] q2) [.Eq] [.Call (.Name "repr" q3) [b] [] q4] pos) (tE c W rd (.rpe x y)) := by
  refine PE.mono (pe_cmpR op_eq (pe_callB (call_rep hg hu) gi mi boot_repr' (pa_cons ha pa_nil (pl_star h1 _)) (he := pl_star h1 _) (hpl := rfl)) (pe_callB (call_rep hg hu) gi mi boot_repr' (pa_cons hb pa_nil (pl_star h2 _)) (he := pl_star h2 _) (hpl := rfl)) rfl) fun σ H Q hq => ?_
  obtain ⟨ρ, w, s, O, I, p⟩ := hq
  simp only [ev] at p
  refine tE_then I p fun x1 s1 v1 H1 w1 I1 g1 r1 _ p1 => ?_
  cases e1 : rpOk x1.1 with
  | false => rw [e1] at p1; exact p1.elim
  | true =>
    obtain ⟨a1, rfl, d1, d2, d3, d4, d5⟩ := rp_ok e1 r1
    rw [e1] at p1
    simp only [if_true] at p1
    refine ⟨a1, toPy x1.1, rfl, by rw [hK]; exact d1, d2, d3, d4, d5, tE_then I1 p1 fun x2 s2 v2 H2 w2 I2 g2 r2 _ p2 => ?_⟩
    cases e2 : rpOk x2.1 with
    | false => rw [e2] at p2; exact p2.elim
    | true =>
      obtain ⟨a2, rfl, k1, k2, k3, k4, k5⟩ := rp_ok e2 r2
      refine ⟨a2, toPy x2.1, rfl, by rw [hK]; exact k1, k2, k3, k4, k5, ?_⟩
      rw [e2] at p2
      refine ⟨rfl, ?_⟩
      rw [dec_str]
      exact p2.okS I2.jok (rep_bl.rp rd) rfl
theorem TyX.new {K : PySem.W.Frag} {H : Hp} {v : V} {ty : Value} {q : Addr} {o : HO} (h : TyX K H v ty) (hq : H q = none) : TyX K (upd H q o) v ty := by
  have ne : ∀ {b : Addr} {u : HO}, H b = some u → upd H q o b = some u := fun {b u} e => by rw [upd_ne (ne_of_none e hq)]; exact e
  cases h with
  | base b =>
    cases b with
    | non => exact .base .non
    | bl x => exact .base (.bl x)
    | int x => exact .base (.int x)
    | str x => exact .base (.str x)
    | flt x => exact .base (.flt x)
    | lst e => exact .base (.lst (ne e))
    | frz e => exact .base (.frz (ne e))
    | tup e => exact .base (.tup (ne e))
    | dK e => exact .base (.dK (ne e))
    | dT e => exact .base (.dT (ne e))
    | ins e a b c d f => exact .base (.ins (ne e) a b c d f)
  | byt b => exact .byt b
  | set e => exact .set (ne e)
  | kList e c => exact .kList e c
  | kTuple e c => exact .kTuple e c
  | kDict e c => exact .kDict e c
  | fTuple e => exact .fTuple (ne e)
  | fDict e => exact .fDict (ne e)
theorem e_isi2 {t u : Str} {k3 : Nat} (hK : X.K = c.G.K) (hC : ClsOk c.G.K c.G) (ht : t ∈ tyNames) (hu : u ∈ tyNames) (gi : Gl X "isinstance") (mi : X.mg "isinstance" = none) (gt : Gl X t) (mt : X.mg t = none) (gu : Gl X u) (mu : X.mg u = none) (h1 : plE a = true) (ha : PE X a (tE c W true x)) :
    PE X (.Call (.Name "isinstance" p) [a, .Tuple [.Name t p2, .Name u p3] k3 p4] [] pos) (tE c W rd (.isi2 x t u)) := by
  obtain ⟨T, hT, hT2⟩ := tyS_of ht
  obtain ⟨U, hU, hU2⟩ := tyS_of hu
  have nm : ∀ t ∈ tyNames, t ≠ "__name__" ∧ (t == ("__debug__" : Str)) = false := fun t ht => by
    unfold tyNames at ht
    simp only [List.mem_cons, List.not_mem_nil, or_false] at ht
    rcases ht with rfl | rfl | rfl | rfl | rfl <;> exact ⟨by decide, by decide⟩
  have pt : PE X (.Name t p2) (tC (.ty T)) := pe_bltn gt mt (boot_ty _ hT) rfl (nm t ht).1 (nm t ht).2
  have pu : PE X (.Name u p3) (tC (.ty U)) := pe_bltn gu mu (boot_ty _ hU) rfl (nm u hu).1 (nm u hu).2
  have ptu : PE X (.Tuple [.Name t p2, .Name u p3] k3 p4) (tTup (tCons (tC (.ty T)) (tCons (tC (.ty U)) tNil))) := pe_tup (pa_cons pt (pa_cons pu pa_nil))
  refine PE.mono (pe_callB call_isiT gi mi boot_isi' (pa_cons ha (pa_cons ptu pa_nil) (pl_star h1 _)) (he := pl_star h1 _) (hpl := rfl)) fun σ H Q hq => ?_
  obtain ⟨ρ, w, s, O, I, p⟩ := hq
  simp only [ev] at p
  refine tE_then I p fun x1 s1 v1 H1 w1 I1 g1 r1 _ p1 => ⟨by show 2 ≤ sizeLine; rw [sizeLine_eq]; omega, fun q hq => ?_⟩
  cases e : isiD x1.1 t with
  | none => rw [e] at p1; exact p1.elim
  | some b1 =>
    cases e2 : isiD x1.1 u with
    | none => rw [e, e2] at p1; exact p1.elim
    | some b2 =>
      rw [e, e2] at p1
      obtain ⟨ty, k1, kk⟩ := isi_all hC (fun ds q => by rw [q] at e; cases e) (fun k q => by rw [q] at e; cases e) r1
      have k2 := kk _ _ _ hT hT2 ht e
      have k4 := kk _ _ _ hU hU2 hu e2
      refine ⟨v1, q, [.ty T, .ty U], ty, [.type T, .type U], b1 || b2, rfl, upd_same, .cons (.ty T) (.cons (.ty U) .nil), TyX.new (by rw [hK]; exact k1) hq, ?_, ?_⟩
      · rw [hK]
        refine kitAny_cons k2 (fun z => ?_) (fun z => by rw [z]; rfl)
        refine kitAny_cons k4 (fun z2 => by rw [z, z2]; exact kitAny_nil) (fun z2 => by rw [z, z2]; rfl)
      · exact p1 (.bl (b1 || b2)) _ w1 (Go.new I1.jok hq) (rep_bl.rp rd) Own.no
theorem zip_lookup : ∀ {ns : List Str} {vs : List V} {f : Str} {i : Nat} {v : V}, ixStr f ns = some i → vs[i]? = some v → (ns.zip vs).lookup f = some v
  | [], _, _, _, _, h, _ => by cases h
  | n :: ns, [], _, _, _, _, h2 => by simp at h2
  | n :: ns, v0 :: vs, f, i, v, h, h2 => by
    unfold ixStr at h
    rw [List.zip_cons_cons, List.lookup_cons]
    split at h
    · rename_i e
      cases h
      have h2' : v0 = v := by simpa using h2
      rw [e, h2']
      simp
    · rename_i e
      obtain ⟨j, hj, rfl⟩ := Option.map_eq_some_iff.mp h
      have : (f == n) = false := beq_eq_false_iff_ne.mpr fun q => e q.symm
      rw [this]
      exact zip_lookup hj (by simpa using h2)
theorem ixStr_mem : ∀ {ns : List Str} {f : Str} {i : Nat}, ixStr f ns = some i → f ∈ ns
  | [], _, _, h => by cases h
  | n :: ns, f, i, h => by
    unfold ixStr at h
    split at h
    · rename_i e; rw [e]; exact List.mem_cons_self
    · obtain ⟨j, hj, rfl⟩ := Option.map_eq_some_iff.mp h
      exact List.mem_cons_of_mem _ (ixStr_mem hj)
theorem e_fld {f : Str} (hK : X.K = c.G.K) (hC : ClsOk c.G.K c.G) (ha : PE X a (tE c W false x)) (hn : notCall0 a = true) : PE X (.Attribute a f pos) (tE c W rd (.fld x f)) := by
  refine PE.mono (pe_fld ha (nc_base hn)) fun σ H Q hq => ?_
  obtain ⟨ρ, w, s, O, I, p⟩ := hq
  simp only [ev] at p
  refine tE_then I p fun x1 s1 v1 H1 w1 I1 g1 r1 _ p1 => ?_
  obtain ⟨xd, xu⟩ := x1
  cases xd with
  | ins cn fs =>
    obtain ⟨ad, C, dx, vs, rfl, hc, ha, _, hl, rs⟩ := r1.rep
    simp only at p1
    cases e : ixStr f (c.G.fl cn) with
    | none => simp only [e, Option.bind_none, Option.map_none, liftO] at p1; exact p1.elim
    | some j =>
      cases e2 : fs[j]? with
      | none => simp only [e, e2, Option.bind_some, Option.map_none, liftO] at p1; exact p1.elim
      | some dd =>
        simp only [e, e2, Option.bind_some, Option.map_some, liftO] at p1
        obtain ⟨v, hv, rv⟩ := rs.get e2
        exact ⟨ad, C, dx, _, v, rfl, ha, by rw [hK]; exact hC.cls _ _ hc, by rw [hK]; exact hC.na _ _ _ hc (ixStr_mem e), zip_lookup e hv, p1.okS I1.jok (rv.rp rd) rfl⟩
  | _ => exact p1.elim

/-! ### calls -/
/-- a reading that may be weakened -/
def TMono (t : TA) : Prop := ∀ σ H (Q Q' : List V → Hp → Prop), (∀ vs H, Q vs H → Q' vs H) → t σ H Q → t σ H Q'
theorem tA_mono {r : Bool} : TMono (tA c W r es) := fun σ H Q Q' m ⟨ρ, w, s, O, I, p⟩ => by
  refine ⟨ρ, w, s, O, I, ?_⟩
  revert p
  cases evs c.G.fl r es ρ s with
  | ok xs s' => exact fun p vs H' w' g r => m _ _ (p vs H' w' g r)
  | exc cn fs s' => exact fun p => p
  | stk => exact fun p => p
/-- a call of what does g -/
def tCl (T : Jt J) (G : Gs) (W : WX) (f : Sg) (g : Fn J) (t : TA) : TE := fun σ H Q => t σ H fun vs H1 => ∃ ds w s O, ds.length = f.ps.length ∧ OOk O w H1 ∧ JOk T O H1 w s ∧ Reps G O w H1 ds vs ∧ Post T G W σ O H1 w false (g ds s) Q
def tClk (T : Jt J) (G : Gs) (W : WX) (f : Sg) (ks : List Str) (n : Nat) (g : Fn J) (t tk : TA) : TE := fun σ H Q => t σ H fun vs H1 => tk σ H1 fun us H2 => ∃ ds ys w s O, ds.length = n ∧ ys.length = ks.length ∧ OOk O w H2 ∧ JOk T O H2 w s ∧ Reps G O w H2 ds vs ∧ Reps G O w H2 ys us ∧ Post T G W σ O H2 w false ((liftO (ordK f.ps ks ds ys) s).bind g) Q
structure ClOk (t : Tx) (h : Bool) (k : Nat) (T : Jt J) (G : Gs) (f : Sg) (g : Fn J) : Prop where
  run : ∀ (X : Cx) (W : WX) (a : Expr) (as : List Expr) (ta : TA) (p pos : Pos), Gd t h k X W → glB X.env.scope f.x = true → plE a = true → (∀ b ∈ as, plE b = true) → as.length + 1 = f.ps.length → TMono ta → PA X (a :: as) ta → PE X (.Call (.Name f.x p) (a :: as) [] pos) (tCl T G W f g ta)
  runk : ∀ (X : Cx) (W : WX) (as : List Expr) (ks : List Str) (kws : List Keyword) (ta tk : TA) (p pos : Pos), h = false → Gd t h k X W → glB X.env.scope f.x = true → (∀ b ∈ as, plE b = true) → (as.length, ks) ∈ f.kl → kws.map (·.arg) = ks.map some →
    TMono ta → TMono tk → PA X as ta → PK X kws tk → PE X (.Call (.Name f.x p) as kws pos) (tClk T G W f ks as.length g ta tk)
theorem RpL.mk : ∀ {ds : List D} {vs : List V} {G : Gs} {O : Addr → Prop} {w : Ws} {H : Hp}, RpL G O w H false ds vs → Reps G O w H ds vs := fun h => h.reps
theorem evs_len {fl : Flds} {r : Bool} {ρ : Env} : ∀ {es : Es J} {s s' : List J} {xs : List D}, evs fl r es ρ s = .ok xs s' → xs.length = es.len
  | .nil, s, s', xs, h => by
    simp only [evs] at h
    cases h
    rfl
  | .cons e es, s, s', xs, h => by
    simp only [evs] at h
    cases q : ev fl r e ρ s with
    | stk => rw [q] at h; cases h
    | exc _ _ _ => rw [q] at h; cases h
    | ok x s1 =>
      rw [q] at h
      simp only [R.bind_ok] at h
      cases q2 : evs fl r es ρ s1 with
      | stk => rw [q2] at h; cases h
      | exc _ _ _ => rw [q2] at h; cases h
      | ok ys s2 =>
        rw [q2] at h
        cases h
        show ys.length + 1 = es.len + 1
        rw [evs_len q2]
theorem e_call {t : Tx} {h : Bool} {k : Nat} {f : Sg} {g : Fn J} (C : ClOk t h k c.T c.G f g) (gd : Gd t h k X W) (gl : glB X.env.scope f.x = true) (h1 : plE a = true) (h2 : ∀ b ∈ as, plE b = true) (hl : as.length + 1 = f.ps.length) (hes : es.len = f.ps.length) (ha : PA X (a :: as) (tA c W false es)) :
    PE X (.Call (.Name f.x p) (a :: as) [] pos) (tE c W rd (.call f g es)) := by
  refine PE.mono (C.run X W a as _ p pos gd gl h1 h2 hl tA_mono ha) fun σ H Q hq => ?_
  obtain ⟨ρ, w, s, O, I, p⟩ := hq
  simp only [ev] at p
  refine ⟨ρ, w, s, O, I, ?_⟩
  cases r : evs c.G.fl false es ρ s with
  | stk => rw [r] at p; exact p.elim
  | exc cn fs s1 => rw [r] at p; exact p
  | ok xs s1 =>
    rw [r] at p
    intro vs H1 w1 g1 r1
    have I1 := I.step g1
    have p1 : Post c.T c.G W σ O H1 w1 rd (g xs s1) Q := Post.go p g1
    refine ⟨xs, w1, s1, O, (evs_len r).trans hes, I1.oo, I1.jok, r1.reps, ?_⟩
    revert p1
    cases g xs s1 with
    | ok y s' => exact fun p v H' w' g rp ow => p v H' w' g (rp.rep.rp rd) ow
    | exc cn fs s' => exact fun p => p
    | stk => exact fun p => p
theorem k_nil : PK X [] (tA c W rd (.nil : Es J)) := ⟨fun pos pins s σ H Q I hq => by
  obtain ⟨ρ, w, s', O, I', p⟩ := hq
  simp only [evs] at p
  exact pk_nil.run pos pins s σ H Q I ((show ∀ vs H' w', Go c.T O H w H' w' s' → RpL c.G O w' H' rd [] vs → Q vs H' from p) [] H w (Go.refl I'.jok) rfl)⟩
theorem k_cons {nm : Option Str} {ks : List Keyword} (h : PE X a (tE c W rd x)) (h2 : PK X ks (tA c W rd es)) : PK X (⟨nm, a, p⟩ :: ks) (tA c W rd (.cons x es)) := by
  refine PK.mono (pk_cons h h2) fun σ H Q hq => ?_
  obtain ⟨ρ, w, s, O, I, p⟩ := hq
  simp only [evs] at p
  refine ⟨ρ, w, s, O, I, Post.bindL p fun x1 s1 v1 H1 w1 g1 r1 p1 => ⟨ρ, w1, s1, O, I.step g1, PostL.bindL p1 fun xs s2 vs H2 w2 g2 r2 p2 => ?_⟩⟩
  exact (show ∀ vs H' w', Go c.T O H2 w2 H' w' s2 → RpL c.G O w' H' rd (x1.1 :: xs) vs → Q vs H' from p2) _ H2 w2 (Go.refl ((I.step g1).step g2).jok) ⟨v1, vs, rfl, r1.go g2, r2⟩
theorem mtk_len {h : Bool} {sc : Scope} {N : List Str} : ∀ {es : Es J} {as : List Keyword}, mtk h sc N es as = true → as.length = es.len
  | .nil, [], _ => rfl
  | .nil, _ :: _, m => by simp [mtk] at m
  | .cons _ _, [], m => by simp [mtk] at m
  | .cons e es, ⟨n, a, p⟩ :: as, m => by
    simp only [mtk, Bool.and_eq_true] at m
    simp [Es.len, mtk_len m.2]
theorem e_callk {t : Tx} {k : Nat} {f : Sg} {g : Fn J} {ks : List Str} {kws : List Keyword} (C : ClOk t false k c.T c.G f g) (gd : Gd t false k X W) (gl : glB X.env.scope f.x = true) (h2 : ∀ b ∈ as, plE b = true) (hk : (as.length, ks) ∈ f.kl) (hn : kws.map (·.arg) = ks.map some)
    (l1 : es.len = as.length) (l2 : kes.len = kws.length) (ha : PA X as (tA c W false es)) (hkw : PK X kws (tA c W false kes)) : PE X (.Call (.Name f.x p) as kws pos) (tE c W rd (.callk f ks g es kes)) := by
  refine PE.mono (C.runk X W as ks kws _ _ p pos rfl gd gl h2 hk hn tA_mono tA_mono ha hkw) fun σ H Q hq => ?_
  obtain ⟨ρ, w, s, O, I, p⟩ := hq
  simp only [ev] at p
  refine ⟨ρ, w, s, O, I, ?_⟩
  cases r : evs c.G.fl false es ρ s with
  | stk => rw [r] at p; exact p.elim
  | exc cn fs s1 => rw [r] at p; exact p
  | ok xs s1 =>
    rw [r] at p
    intro vs H1 w1 g1 r1
    have I1 := I.step g1
    have p1 : Post c.T c.G W σ O H1 w1 rd ((evs c.G.fl false kes ρ s1).bind fun ys s => (liftO (ordK f.ps ks xs ys) s).bind g) Q := Post.go p g1
    refine ⟨ρ, w1, s1, O, I1, ?_⟩
    cases r' : evs c.G.fl false kes ρ s1 with
    | stk => rw [r'] at p1; exact p1.elim
    | exc cn fs s2 => rw [r'] at p1; exact p1
    | ok ys s2 =>
      rw [r'] at p1
      intro us H2 w2 g2 r2
      have p2 : Post c.T c.G W σ O H2 w2 rd ((liftO (ordK f.ps ks xs ys) s2).bind g) Q := Post.go p1 g2
      refine ⟨xs, ys, w2, s2, O, (evs_len r).trans l1, ?_, (I1.step g2).oo, (I1.step g2).jok, r1.reps.le g2.le, r2.reps, ?_⟩
      · have := congrArg List.length hn
        rw [List.length_map, List.length_map] at this
        rw [evs_len r', l2, this]
      · revert p2
        cases (liftO (ordK f.ps ks xs ys) s2).bind g with
        | ok y s' => exact fun p v H' w' g rp ow => p v H' w' g (rp.rep.rp rd) ow
        | exc cn fs s' => exact fun p => p
        | stk => exact fun p => p
end
end DL

set_option Elab.async false
set_option linter.all false
set_option maxRecDepth 100000
set_option maxHeartbeats 4000000
/-! The data layer, part j: targets, what is walked, list comprehensions. -/
namespace DL
open PySem PySem.Spec PyProof.Rows L2
variable {J : Type}
def WN : WX := fun _ _ _ _ => False
section
variable {c : Cf J} {ρ : Env} {σ : St} {H H1 : Hp} {w w1 : Ws} {s s1 : List J} {O O1 : Addr → Prop}
theorem slot_ow {c : Cf J} {O : Addr → Prop} {w : Ws} {H : Hp} {ρ ρ' : Env} {σ σ' : St} {i : Nat} {x : Slot} (h : SlotOk c O w H ρ σ i x) (h1 : σ'[i]? = σ[i]?) (h2 : ∀ j es, j ≠ i → ρ'[j]? = some (.ow es) → ρ[j]? = some (.ow es) ∧ σ'[j]? = σ[j]?) : SlotOk c O w H ρ' σ' i x := by
  cases x with
  | no => trivial
  | sh d =>
    obtain ⟨v, a, b⟩ := h
    exact ⟨v, h1.trans a, b⟩
  | ow ds =>
    obtain ⟨a, vs, k1, k2, k3, k4, k5, k6, k7⟩ := h
    exact ⟨a, vs, h1.trans k1, k2, k3, k4, k5, k6, fun j es hj e => by
      obtain ⟨q1, q2⟩ := h2 j es hj e
      rw [q2]
      exact k7 j es hj q1⟩
  | xc cn fs =>
    obtain ⟨a, cls, d, k1, k2, k3⟩ := h
    exact ⟨a, cls, d, k1, h1.trans k2, k3⟩
theorem EI.set (I : EI c ρ σ H w s O) {d : D} {v : V} (i : Nat) (r : Rep c.G O w H d v) : EI c (ρ.set i (.sh d)) (σ.set i (some v)) H w s O where
  go := I.go
  oo := I.oo
  o0 := I.o0
  len := by rw [List.length_set, List.length_set]; exact I.len
  sl := fun j x e => by
    by_cases hij : i = j
    · subst hij
      by_cases hi : i < ρ.length
      · rw [List.getElem?_set_self hi] at e
        cases e
        exact ⟨v, List.getElem?_set_self (by rw [← I.len]; exact hi), r⟩
      · rw [List.getElem?_eq_none (by simpa using hi)] at e; cases e
    · rw [List.getElem?_set_ne hij] at e
      refine slot_ow (I.sl j x e) (List.getElem?_set_ne hij) fun l es hl q => ?_
      by_cases hil : i = l
      · subst hil
        by_cases hi : i < ρ.length
        · rw [List.getElem?_set_self hi] at q; cases q
        · rw [List.getElem?_eq_none (by simpa using hi)] at q; cases q
      · rw [List.getElem?_set_ne hil] at q
        exact ⟨q, List.getElem?_set_ne hil⟩
theorem EI.no (I : EI c ρ σ H w s O) (i : Nat) (x : Option V) : EI c (ρ.set i .no) (σ.set i x) H w s O where
  go := I.go
  oo := I.oo
  o0 := I.o0
  len := by rw [List.length_set, List.length_set]; exact I.len
  sl := fun j x e => by
    by_cases hij : i = j
    · subst hij
      by_cases hi : i < ρ.length
      · rw [List.getElem?_set_self hi] at e
        cases e
        trivial
      · rw [List.getElem?_eq_none (by simpa using hi)] at e; cases e
    · rw [List.getElem?_set_ne hij] at e
      refine slot_ow (I.sl j x e) (List.getElem?_set_ne hij) fun l es hl q => ?_
      by_cases hil : i = l
      · subst hil
        by_cases hi : i < ρ.length
        · rw [List.getElem?_set_self hi] at q; cases q
        · rw [List.getElem?_eq_none (by simpa using hi)] at q; cases q
      · rw [List.getElem?_set_ne hil] at q
        exact ⟨q, List.getElem?_set_ne hil⟩
theorem EI.wipe (I : EI c ρ σ H w s O) : ∀ own : List (Str × Nat), EI c (wipeE ρ own) (wipe σ (own.map (·.2))) H w s O
  | [] => I
  | v :: vs => (EI.wipe I vs).no v.2 none
/-- a new list that is kept from all else -/
theorem EI.newO (I : EI c ρ σ H w s O) {p : Addr} {vs : List V} (hp : H p = none) : EI c ρ σ (upd H p (.lst vs)) w s (fun b => O b ∨ b = p) where
  go := { (I.go.trans (Go.new I.jok hp (o := .lst vs))) with jok := I.jok.newO hp }
  oo := ⟨fun b h => by
      rcases h with h | h
      · exact (Go.new I.jok hp (o := .lst vs)).al b (I.oo.al b h)
      · rw [h, upd_same]; exact (fun z => nomatch z),
    fun b h => by
      rcases h with h | h
      · exact I.oo.nj b h
      · rw [h]; exact fun z => I.oo.free I.jok hp (.inr z)⟩
  o0 := fun b h => .inl (I.o0 b h)
  len := I.len
  sl := fun i x e => by
    have l : Le O w H (fun b => O b ∨ b = p) w (upd H p (.lst vs)) := ⟨fun _ _ h => h, fun b u h n => ⟨by rw [upd_ne (ne_of_none h hp)]; exact h, fun z => z.elim (fun y => y.elim (fun q => n (.inl q)) (fun q => ne_of_none h hp q)) (fun q => n (.inr q))⟩⟩
    have q := I.sl i x e
    cases x with
    | no => trivial
    | sh d =>
      obtain ⟨v, a, b⟩ := q
      exact ⟨v, a, b.le l⟩
    | ow ds =>
      obtain ⟨a, us, k1, k2, k3, k4, k5, k6, k7⟩ := q
      exact ⟨a, us, k1, by rw [upd_ne (ne_of_none k2 hp)]; exact k2, .inl k3, k4, k5, k6.le l, k7⟩
    | xc cn fs =>
      obtain ⟨a, cls, d, k1, k2, k3⟩ := q
      exact ⟨a, cls, d, k1, k2, k3.le l⟩
/-- that list is put anew -/
theorem EI.setO (I : EI c ρ σ H w s O) {p : Addr} {us vs : List V} (hp : H p = some (.lst us)) (ho : O p) (h0 : c.H0 p = none) (hn : ∀ (i : Nat) (es : List D), ρ[i]? = some (Slot.ow es) → σ[i]? ≠ some (some (V.ref p))) : EI c ρ σ (upd H p (.lst vs)) w s O := by
  have l : Le O w H O w (upd H p (.lst vs)) := ⟨fun _ _ h => h, fun b u h n => ⟨by rw [upd_ne (show b ≠ p from fun e => n (.inl (by rw [e]; exact ho)))]; exact h, n⟩⟩
  have jk : JOk c.T O (upd H p (.lst vs)) w s := ⟨I.jok.l1, I.jok.l2, fun k a fp x h1 h2 h3 => c.T.fr (I.jok.at_ k a fp x h1 h2 h3) (fun b u e n => ⟨by rw [upd_ne (show b ≠ p from fun e => n (.inl (by rw [e]; exact ho)))]; exact e, n⟩) fun b hb => by
    rw [upd_ne]
    intro e
    subst e
    exact I.oo.nj _ ho ⟨fp, List.mem_of_getElem? h2, hb⟩, I.jok.ap⟩
  refine ⟨⟨I.go.hb, fun b o e n => ?_, fun b e => ?_, I.go.nw, fun b h => (I.go.kp b h).imp id fun z => ?_, jk⟩, ⟨fun b h => ?_, I.oo.nj⟩, I.o0, I.len, fun i x e => ?_⟩
  · rw [upd_ne fun q => by rw [q, h0] at e; cases e]
    exact I.go.st b o e n
  · by_cases q : b = p
    · rw [q, upd_same]; exact fun z => nomatch z
    · rw [upd_ne q]; exact I.go.al b e
  · by_cases q : b = p
    · rw [q, upd_same]; exact fun z => nomatch z
    · rw [upd_ne q]; exact z
  · by_cases q : b = p
    · rw [q, upd_same]; exact fun z => nomatch z
    · rw [upd_ne q]; exact I.oo.al b h
  · have q := I.sl i x e
    cases x with
    | no => trivial
    | sh d =>
      obtain ⟨v, a, b⟩ := q
      exact ⟨v, a, b.le l⟩
    | ow ds =>
      obtain ⟨a, us', k1, k2, k3, k4, k5, k6, k7⟩ := q
      exact ⟨a, us', k1, by rw [upd_ne fun z => hn i _ e (by rw [k1, z])]; exact k2, k3, k4, k5, k6.le l, k7⟩
    | xc cn fs =>
      obtain ⟨a, cls, d, k1, k2, k3⟩ := q
      exact ⟨a, cls, d, k1, k2, k3.le l⟩
end

/-! ### targets -/
def gTgs : List (Nat × Str) → TGs
  | [] => gNil
  | p :: l => gCons (gName p.1) (gTgs l)
def gTg (K : PySem.W.Frag) : Tg → TG
  | .nm i _ => gName i
  | .tp l => gTup K l.length (gTgs l)
theorem wipe_set {σ : St} {i : Nat} {x : Option V} : ∀ {vs : List Nat}, i ∈ vs → wipe (σ.set i x) vs = wipe σ vs
  | v :: vs, h => by
    unfold L2.wipe
    by_cases e : i ∈ vs
    · rw [wipe_set e]
    · have hv : i = v := (List.mem_cons.mp h).resolve_right e
      subst hv
      have key : ∀ vs : List Nat, i ∉ vs → wipe (σ.set i x) vs = (wipe σ vs).set i x := fun vs => by
        induction vs with
        | nil => intro _; rfl
        | cons u us ih =>
          intro hn
          unfold L2.wipe
          rw [ih fun z => hn (List.mem_cons_of_mem _ z), List.set_comm _ _ fun e => hn (by rw [e]; exact List.mem_cons_self)]
      rw [key vs e, List.set_set]
section
variable {c : Cf J} {ρ ρ1 : Env} {σ : St} {H : Hp} {w : Ws} {s : List J} {O : Addr → Prop}
theorem gTgs_ok {Q : St → Hp → Prop} : ∀ {l : List (Nat × Str)} {ds : List D} {vs : List V} {ρ : Env} {σ : St}, EI c ρ σ H w s O → Reps c.G O w H ds vs → l.length = ds.length →
    (∀ σ', EI c ((l.zip ds).foldl (fun ρ p => ρ.set p.1.1 (.sh p.2)) ρ) σ' H w s O → (∀ us : List Nat, (∀ p ∈ l, p.1 ∈ us) → wipe σ' us = wipe σ us) → Q σ' H) → gTgs l vs σ H Q
  | [], [], _, ρ, σ, I, r, _, k => ⟨r, k σ I fun _ _ => rfl⟩
  | [], _ :: _, _, _, _, _, _, h, _ => by cases h
  | _ :: _, [], _, _, _, _, _, h, _ => by cases h
  | p :: l, d :: ds, vs, ρ, σ, I, r, h, k => by
    obtain ⟨v, us, rfl, r1, r2⟩ := r
    refine ⟨v, us, rfl, gTgs_ok (I.set p.1 r1) r2 (Nat.succ.inj h) fun σ' I' hw => k σ' I' fun us hu => ?_⟩
    rw [hw us fun q hq => hu q (List.mem_cons_of_mem _ hq)]
    exact wipe_set (hu p List.mem_cons_self)
theorem gTg_ok {K : PySem.W.Frag} {Q : St → Hp → Prop} {t : Tg} {d : D} {v : V} (hK : K = c.G.K) (e : setTg t d ρ = some ρ1) (I : EI c ρ σ H w s O) (r : Rep c.G O w H d v)
    (k : ∀ σ', EI c ρ1 σ' H w s O → (∀ own : List (Str × Nat), tgIn own t = true → wipe σ' (own.map (·.2)) = wipe σ (own.map (·.2))) → Q σ' H) : gTg K t v σ H Q := by
  cases t with
  | nm i x =>
    cases e
    refine k _ (I.set i r) fun own h => wipe_set ?_
    exact List.mem_map.mpr ⟨(x, i), of_decide_eq_true h, rfl⟩
  | tp l =>
    cases d with
    | tup ds =>
      simp only [setTg] at e
      split at e
      · rename_i hl
        cases e
        obtain ⟨a, vs, rfl, ha, rs⟩ := r
        refine ⟨a, vs, rfl, by rw [hK]; exact ha.sq, by rw [hl]; exact rs.length.symm, gTgs_ok I rs hl fun σ' I' hw => k σ' I' fun own h => hw _ fun p hp => ?_⟩
        have := (List.all_eq_true.mp h) p hp
        exact List.mem_map.mpr ⟨(p.2, p.1), of_decide_eq_true this, rfl⟩
      · cases e
    | _ => simp [setTg] at e
end

/-! ### what is walked -/
/-- the walk gives these values while P holds -/
def ItOk (Jt : It) (vs : List V) (P : Hp → Prop) : Prop := ∀ H, P H → ∀ i, (i < vs.length → Jt.go i H ∧ ∀ x H', Jt.yld i H x H' → H' = H ∧ vs[i]? = some x) ∧ (vs.length ≤ i → Jt.stop i H)
def PostI (T : Jt J) (G : Gs) (W : WX) (σ : St) (O : Addr → Prop) (H : Hp) (w : Ws) (rd : Bool) (r : R J (D × Bool)) (Q : It → Hp → Prop) : Prop := match r with
  | .ok x s' => ∃ ds, itemsOf x.1 = some ds ∧ ∀ H' w' vs (Ji : It) (P : Hp → Prop), Go T O H w H' w' s' → Reps G O w' H' ds vs → ItOk Ji vs P → P H' → (∀ H2 w2 s2 O2, Go T O2 H' w' H2 w2 s2 → P H2) → (rd = false → ∀ H2 w2 O2, Le O w' H' O2 w2 H2 → P H2) → Q Ji H'
  | .exc c fs s' => ∀ cls dd H' w', Go T O H w H' w' s' → ExcR G O w' H' c fs cls dd → W cls dd σ H'
  | .stk => False
def tI (c : Cf J) (W : WX) (rd : Bool) (e : E J) : TI := fun σ H Q => ∃ ρ w s O, EI c ρ σ H w s O ∧ PostI c.T c.G W σ O H w rd (ev c.G.fl rd e ρ s) Q
theorem PI.or {X : Cx} {tg e : Expr} {t t' : TI} (h : PI X tg e t) (h' : PI X tg e t') : PI X tg e (fun σ H R => t σ H R ∨ t' σ H R) :=
  ⟨fun pins s σ H R I q => q.elim (h.run pins s σ H R I) (h'.run pins s σ H R I)⟩
theorem itl_ok {K : PySem.W.Frag} {a : Addr} {vs : List V} (inj : ∀ H, SqL K H a vs → ∀ ys, SqL K H a ys → ys = vs) : ItOk (Itl K a) vs (fun H => SqL K H a vs) := fun H p i =>
  ⟨fun h => ⟨⟨vs, vs[i], p, List.getElem?_eq_getElem h⟩, fun x H' y => ⟨y.1, y.2 vs p⟩⟩, fun h => ⟨vs, p, h⟩⟩
theorem itt_ok {K : PySem.W.Frag} {a : Addr} {vs : List V} : ItOk (Itt K a) vs (fun H => SqT K H a vs) := fun H p i =>
  ⟨fun h => ⟨⟨vs, vs[i], p, List.getElem?_eq_getElem h⟩, fun x H' y => ⟨y.1, y.2 vs p⟩⟩, fun h => ⟨vs, p, h⟩⟩
theorem i_seq {X : Cx} {c : Cf J} {W : WX} {tg a : Expr} {x : E J} {rd : Bool} (hK : X.K = c.G.K) (h : PE X a (tE c W rd x)) : PI X tg a (tI c W rd x) := by
  refine PI.mono (PI.or (pi_list h) (pi_tup h)) fun σ H Q hq => ?_
  obtain ⟨ρ, w, s, O, I, p⟩ := hq
  cases r : ev c.G.fl rd x ρ s with
  | stk => rw [r] at p; exact p.elim
  | exc cn fs s' => rw [r] at p; exact .inl ⟨ρ, w, s, O, I, by rw [r]; exact p⟩
  | ok y s' =>
    rw [r] at p
    obtain ⟨ds, hd, p⟩ := p
    obtain ⟨dd, u⟩ := y
    cases dd with
    | lst xs =>
      cases hd
      refine .inl ⟨ρ, w, s, O, I, ?_⟩
      rw [r]
      refine fun v H' w' g rp ow => ?_
      obtain ⟨a, vs, e, ha, nb, rs⟩ := rp.lst
      refine ⟨a, e, ⟨vs, SqL.of ha⟩, p H' w' vs _ _ g rs (fun H p i => ⟨fun h => ⟨⟨vs, vs[i], p, List.getElem?_eq_getElem h⟩, fun x H' y => ⟨y.1, y.2 vs p⟩⟩, fun h => ⟨vs, p, h⟩⟩) (SqL.of ha) (fun H2 w2 s2 O2 g2 => SqL.of (g2.st _ _ ha nb)) fun hr H2 w2 O2 l => ?_⟩
      subst hr
      obtain ⟨a', vs', e', ha', nb', rs'⟩ := rp.rep
      rw [e'] at e; cases e
      rw [ha'] at ha; cases ha
      exact SqL.of (l.st _ _ ha' nb').1
    | scr xs =>
      cases hd
      refine .inl ⟨ρ, w, s, O, I, ?_⟩
      rw [r]
      refine fun v H' w' g rp ow => ?_
      obtain ⟨a, vs, e, ha, rs⟩ := rp.non fun _ z => nomatch z
      refine ⟨a, e, ⟨vs, by rw [hK]; exact ha.sq⟩, p H' w' vs _ (fun H => SqL X.K H a vs) g rs (fun H p i => ⟨fun h => ⟨⟨vs, vs[i], p, List.getElem?_eq_getElem h⟩, fun x H' y => ⟨y.1, y.2 vs p⟩⟩, fun h => ⟨vs, p, h⟩⟩) (by rw [hK]; exact ha.sq)
        (fun H2 w2 s2 O2 g2 => ?_) fun hr H2 w2 O2 l => ?_⟩
      · rw [hK]; exact ha.elim (fun ⟨⟨o, h1⟩, nb⟩ => .inl (.inr ⟨o, g2.st _ _ h1 fun z => nb (.inr z)⟩)) .inr
      · rw [hK]; exact ha.elim (fun ⟨⟨o, h1⟩, nb⟩ => .inl (.inr ⟨o, (l.st _ _ h1 nb).1⟩)) .inr
    | tup xs =>
      cases hd
      refine .inr ⟨ρ, w, s, O, I, ?_⟩
      rw [r]
      refine fun v H' w' g rp ow => ?_
      obtain ⟨a, vs, e, ha, rs⟩ := rp.tup
      refine ⟨a, e, ⟨vs, by rw [hK]; exact ha.sq⟩, p H' w' vs _ (fun H => SqT X.K H a vs) g rs (fun H p i => ⟨fun h => ⟨⟨vs, vs[i], p, List.getElem?_eq_getElem h⟩, fun x H' y => ⟨y.1, y.2 vs p⟩⟩, fun h => ⟨vs, p, h⟩⟩) (by rw [hK]; exact ha.sq)
        (fun H2 w2 s2 O2 g2 => ?_) fun hr H2 w2 O2 l => ?_⟩
      · rw [hK]; exact ha.elim (fun z => .inl (.inl (g2.st _ _ z.1 fun y => z.2 (.inr y)))) .inr
      · rw [hK]; exact ha.elim (fun z => .inl (.inl (l.st _ _ z.1 z.2).1)) .inr
    | _ => cases hd
theorem intsUp_len : ∀ (n : Nat) (lo : Int), (intsUp lo n).length = n
  | 0, _ => rfl
  | n + 1, lo => by unfold intsUp; rw [List.length_cons, intsUp_len n]
theorem intsUp_reps {G : Gs} {O : Addr → Prop} {w : Ws} {H : Hp} : ∀ (n : Nat) (lo : Int), Reps G O w H (intsUp lo n) ((List.range n).map fun (i : Nat) => V.int (lo + (i : Int)))
  | 0, _ => rfl
  | n + 1, lo => by
    unfold intsUp
    rw [List.range_succ_eq_map, List.map_cons, List.map_map]
    refine ⟨.int lo, _, ?_, rfl, intsUp_reps n (lo + 1)⟩
    congr 1
    · simp
    · apply List.map_congr_left
      intro i _
      simp only [Function.comp]
      congr 1
      omega
theorem itr_ok (lo : Int) (n : Nat) : ItOk (Itr lo n) ((List.range n).map fun (i : Nat) => V.int (lo + (i : Int))) (fun _ => True) := fun H _ i => by
  rw [List.length_map, List.length_range]
  refine ⟨fun h => ⟨h, fun x H' y => ⟨y.1, ?_⟩⟩, fun h => h⟩
  rw [List.getElem?_map, List.getElem?_range h, y.2]
  rfl
theorem rng1_read {c : Cf J} {W : WX} {x : E J} {rd : Bool} {σ : St} {H : Hp} {Q : It → Hp → Prop} (hq : tI c W rd (.rng1 x) σ H Q) : iRng1 (tCons (tE c W false x) tNil) σ H Q := by
  obtain ⟨ρ, w, s, O, I, p⟩ := hq
  simp only [ev] at p
  refine ⟨ρ, w, s, O, I, ?_⟩
  cases r : ev c.G.fl false x ρ s with
  | stk => rw [r] at p; exact p.elim
  | exc cn fs s' => rw [r] at p; exact p
  | ok y s' =>
    rw [r] at p
    obtain ⟨dd, u⟩ := y
    cases dd with
    | int i =>
      refine fun v H' w' g rp ow => ?_
      have p : PostI c.T c.G W σ O H w rd (if rngOk i then R.ok (.lst (intsUp 0 i.toNat), false) s' else .stk) Q := p
      split at p
      · rename_i hr
        obtain ⟨ds, hd, p⟩ := p
        cases hd
        unfold rngOk at hr
        simp only [Bool.and_eq_true, decide_eq_true_eq] at hr
        exact ⟨i, by rw [rp.int], hr.1, hr.2, p H' w' _ _ _ g (intsUp_reps _ _) (itr_ok 0 i.toNat) trivial (fun _ _ _ _ _ => trivial) fun _ _ _ _ _ => trivial⟩
      · exact p.elim
    | _ => exact p.elim
theorem i_rng1 {X : Cx} {c : Cf J} {W : WX} {tg a : Expr} {x : E J} {rd : Bool} {p pos : Pos} (hg : Gl X "range") (hm : X.mg "range" = none) (h : PE X a (tE c W false x)) (h1 : plE a = true) : PI X tg (.Call (.Name "range" p) [a] [] pos) (tI c W rd (.rng1 x)) := by
  exact PI.mono (pi_range1 hg hm (pa_cons h pa_nil (pl_star h1 _)) (pl_star h1 _)) fun σ H Q hq => rng1_read hq
end DL

set_option Elab.async false
set_option linter.all false
set_option maxRecDepth 100000
set_option maxHeartbeats 4000000
/-! The data layer, part k: range(a, b), list comprehensions. -/
namespace DL
open PySem PySem.Spec PyProof.Rows L2
variable {J : Type}
theorem i_rng2 {X : Cx} {c : Cf J} {W : WX} {tg a b : Expr} {x y : E J} {rd : Bool} {p pos : Pos} (hg : Gl X "range") (hm : X.mg "range" = none) (h : PE X a (tE c W false x)) (h1 : plE a = true) (h' : PE X b (tE c W false y)) (h2 : plE b = true) : PI X tg (.Call (.Name "range" p) [a, b] [] pos) (tI c W rd (.rng2 x y)) := by
  refine PI.mono (pi_range2 hg hm (pa_cons h (pa_cons h' pa_nil (pl_star h2 _)) (pl_star h1 _)) ((pl_star h1 _).trans (by rw [pl_star h2]; rfl)) (pl_star h2 _)) fun σ H Q hq => ?_
  obtain ⟨ρ, w, s, O, I, p⟩ := hq
  simp only [ev] at p
  refine ⟨ρ, w, s, O, I, ?_⟩
  cases r : ev c.G.fl false x ρ s with
  | stk => rw [r] at p; exact p.elim
  | exc cn fs s' => rw [r] at p; exact p
  | ok z s' =>
    rw [r] at p
    obtain ⟨dd, u⟩ := z
    cases dd with
    | int i =>
      refine fun v H' w' g rp ow => ⟨ρ, w', s', O, I.step g, ?_⟩
      have p : PostI c.T c.G W σ O H w rd ((intOf (ev c.G.fl false y ρ s')).bind fun j s => if rngOk i && rngOk j then .ok (.lst (intsUp i (j - i).toNat), false) s else .stk) Q := p
      cases r2 : ev c.G.fl false y ρ s' with
      | stk => rw [r2] at p; exact p.elim
      | exc cn fs s2 => rw [r2] at p; exact fun cls dd H2 w2 g2 e => p cls dd H2 w2 (g.trans g2) e
      | ok z2 s2 =>
        rw [r2] at p
        obtain ⟨dd2, u2⟩ := z2
        cases dd2 with
        | int j =>
          refine fun v2 H2 w2 g2 rp2 ow2 => ?_
          have p : PostI c.T c.G W σ O H w rd (if rngOk i && rngOk j then R.ok (.lst (intsUp i (j - i).toNat), false) s2 else .stk) Q := p
          split at p
          · rename_i hr
            obtain ⟨ds, hd, p⟩ := p
            cases hd
            unfold rngOk at hr
            simp only [Bool.and_eq_true, decide_eq_true_eq] at hr
            exact ⟨i, j, by rw [rp.int, rp2.int], ⟨hr.1.1, hr.1.2, hr.2.1, hr.2.2⟩, p H2 w2 _ _ _ (g.trans g2) (intsUp_reps _ _) (itr_ok i (j - i).toNat) trivial (fun _ _ _ _ _ => trivial) fun _ _ _ _ _ => trivial⟩
          · exact p.elim
        | _ => exact p.elim
    | _ => exact p.elim

/-! ### list comprehensions -/
def tTs (c : Cf J) (W : WX) (es : Es J) : TT := fun σ H Q => ∃ ρ w s O, EI c ρ σ H w s O ∧ PostT c.T c.G W σ O H w (evt c.G.fl es ρ s) Q
theorem ts_nil {X : Cx} {c : Cf J} {W : WX} : PTs X [] (tTs c W (.nil : Es J)) := ⟨fun pins s σ H Q I hq => by
  obtain ⟨ρ, w, s', O, I', p⟩ := hq
  simp only [evt] at p
  exact pts_nil.run pins s σ H Q I ((show ∀ H' w', Go c.T O H w H' w' s' → Q true H' from p) H w (Go.refl I'.jok))⟩
theorem ts_one {X : Cx} {c : Cf J} {W : WX} {a : Expr} {x : E J} (h : PT X a (tT c W x)) : PTs X [a] (tTs c W (.cons x .nil)) := ⟨fun pins s σ H Q I hq => by
  obtain ⟨ρ, w, s', O, I', p⟩ := hq
  simp only [evt] at p
  exact (pts_one h).run pins s σ H Q I ⟨ρ, w, s', O, I', p⟩⟩
theorem lc_step {fl : Flds} {t : Tg} {cs : Es J} {el : E J} {ρ : Env} {d : D} {ds acc : List D} {s : List J} (h : lcRun t (fun ρ s => evt fl cs ρ s) (fun ρ s => ev fl false el ρ s) ρ (d :: ds) acc s ≠ .stk) :
    ∃ ρ1, setTg t d ρ = some ρ1 ∧ ((∃ s1, evt fl cs ρ1 s = .ok false s1 ∧ lcRun t (fun ρ s => evt fl cs ρ s) (fun ρ s => ev fl false el ρ s) ρ (d :: ds) acc s = lcRun t (fun ρ s => evt fl cs ρ s) (fun ρ s => ev fl false el ρ s) ρ ds acc s1) ∨
      ∃ s1 x s2, evt fl cs ρ1 s = .ok true s1 ∧ ev fl false el ρ1 s1 = .ok x s2 ∧ acc.length < 16777216 ∧ lcRun t (fun ρ s => evt fl cs ρ s) (fun ρ s => ev fl false el ρ s) ρ (d :: ds) acc s = lcRun t (fun ρ s => evt fl cs ρ s) (fun ρ s => ev fl false el ρ s) ρ ds (acc ++ [x.1]) s2) := by
  generalize hL : lcRun t (fun ρ s => evt fl cs ρ s) (fun ρ s => ev fl false el ρ s) ρ = L at h ⊢
  have eq : L (d :: ds) acc s = (match setTg t d ρ with
    | none => .stk
    | some ρ1 => match evt fl cs ρ1 s with
      | .ok false s1 => L ds acc s1
      | .ok true s1 => match ev fl false el ρ1 s1 with
        | .ok x s2 => if acc.length < 16777216 then L ds (acc ++ [x.1]) s2 else .stk
        | _ => .stk
      | _ => .stk) := by rw [← hL]; rfl
  rw [eq] at h ⊢
  cases e : setTg t d ρ with
  | none => rw [e] at h; exact absurd rfl h
  | some ρ1 =>
    rw [e] at h
    refine ⟨ρ1, rfl, ?_⟩
    simp only at h ⊢
    cases e2 : evt fl cs ρ1 s with
    | stk => rw [e2] at h; exact absurd rfl h
    | exc _ _ _ => rw [e2] at h; exact absurd rfl h
    | ok b s1 =>
      rw [e2] at h
      cases b with
      | false => exact .inl ⟨s1, rfl, rfl⟩
      | true =>
        simp only at h ⊢
        cases e3 : ev fl false el ρ1 s1 with
        | stk => rw [e3] at h; exact absurd rfl h
        | exc _ _ _ => rw [e3] at h; exact absurd rfl h
        | ok x s2 =>
          rw [e3] at h
          simp only at h
          split at h
          · rename_i hl
            exact .inr ⟨s1, x, s2, rfl, e3, hl, by simp only [hl, if_true]⟩
          · exact absurd rfl h
theorem wipe_sub {σ : St} {vs : List Nat} : ∀ {us : List Nat}, (∀ u ∈ us, u ∈ vs) → L2.wipe (L2.wipe σ us) vs = L2.wipe σ vs
  | [], _ => rfl
  | u :: us, h => by
    show L2.wipe ((L2.wipe σ us).set u none) vs = _
    rw [DL.wipe_set (h u List.mem_cons_self), wipe_sub fun x hx => h x (List.mem_cons_of_mem _ hx)]
theorem Post.ne {T : Jt J} {G : Gs} {W : WX} {σ : St} {O : Addr → Prop} {H : Hp} {w : Ws} {rd : Bool} {r : R J (D × Bool)} {Q : VK} (h : Post T G W σ O H w rd r Q) : r ≠ .stk := fun e => by rw [e] at h; exact h
theorem lc_read {X : Cx} {c : Cf J} {W : WX} {rd : Bool} {own : List (Str × Nat)} {el it : E J} {t : Tg} {cs : Es J} (hK : X.K = c.G.K) (hto : tgIn own t = true) {σ : St} {H : Hp} {Q : VK} (hq : tE c W rd (.lc el t it cs own) σ H Q) :
    tLc (tI c W true it) (gTg X.K t) (tTs c WN cs) (tE c WN false el) (own.map (·.2)) σ H Q := by
  obtain ⟨ρ, w, s, O, I, p⟩ := hq
  simp only [ev] at p
  refine ⟨ρ, w, s, O, I, ?_⟩
  cases r : ev c.G.fl true it ρ s with
  | stk => rw [r] at p; exact p.elim
  | exc cn fs s' => rw [r] at p; exact p
  | ok z s1 =>
    rw [r] at p
    cases hd : itemsOf z.1 with
    | none => simp only [R.bind_ok, hd] at p; exact p.elim
    | some ds =>
      simp only [R.bind_ok, hd] at p
      refine ⟨ds, hd, fun H1 w1 vs Ji P g1 rs hok hP hgo _ D hD => ?_⟩
      have I1 := I.step g1
      have I1' := (I1.newO (vs := []) hD).wipe own
      let Wf : Nat → Nat → Hp → Prop := fun i m H2 => m = vs.length - i ∧ i ≤ vs.length ∧ P H2 ∧ ∃ w2 s2 acc av, EI c (wipeE ρ own) (wipe σ (own.map (·.2))) H2 w2 s2 (fun b => O b ∨ b = D) ∧ Go c.T O H1 w1 H2 w2 s2 ∧
        H2 D = some (.lst av) ∧ Reps c.G (fun b => O b ∨ b = D) w2 H2 acc av ∧ Reps c.G (fun b => O b ∨ b = D) w2 H2 ds vs ∧ Post c.T c.G W σ O H1 w1 rd (lcRun t (fun ρ s => evt c.G.fl cs ρ s) (fun ρ s => ev c.G.fl false el ρ s) (wipeE ρ own) (ds.drop i) acc s2) Q
      have gD : Go c.T O H1 w1 (upd H1 D (.lst [])) w1 s1 := Go.new I1.jok hD
      have lD : Le O w1 H1 (fun b => O b ∨ b = D) w1 (upd H1 D (.lst [])) := ⟨fun _ _ h => h, fun b u h n => ⟨by rw [upd_ne (ne_of_none h hD)]; exact h, fun z => z.elim (fun y => y.elim (fun q => n (.inl q)) (fun q => ne_of_none h hD q)) (fun q => n (.inr q))⟩⟩
      refine ⟨Wf, ⟨vs.length, by simp, Nat.zero_le _, hgo _ _ _ _ gD, w1, s1, [], [], I1', gD, upd_same, rfl, rs.le lD, ?_⟩, ?_⟩
      · exact Post.go p g1
      · rintro i m H2 ⟨rfl, hi2, hP2, w2, s2, acc, av, I2, g2, hD2, ra, rds, q⟩
        obtain ⟨k1, k2⟩ := hok H2 hP2 i
        by_cases hlt : i < vs.length
        · obtain ⟨j1, j2⟩ := k1 hlt
          have hll : i < ds.length := by rw [rds.length]; exact hlt
          rw [List.drop_eq_getElem_cons hll] at q
          obtain ⟨ρ1, e1, hstep⟩ := lc_step q.ne
          let Nx : Hp → Prop := fun H3 => Wf (i + 1) (vs.length - (i + 1)) H3
          refine .inr ⟨j1, Nx, fun H' h' => ⟨vs.length - (i + 1), by omega, h'⟩, fun x H3 y => ?_⟩
          obtain ⟨y1, y2⟩ := j2 x H3 y
          subst y1
          obtain ⟨v, hv, rv⟩ := rds.get (List.getElem?_eq_getElem hll)
          rw [hv] at y2
          cases y2
          refine gTg_ok hK e1 I2 rv fun σ2 J2 hw2 => ⟨(hw2 own hto).trans (wipe_sub fun u hu => hu), ?_⟩
          have keepD : ∀ {Ha Hb : Hp} {wa wb : Ws} {sb : List J}, Go c.T (fun b => O b ∨ b = D) Ha wa Hb wb sb → OOk (fun b => O b ∨ b = D) wa Ha → ∀ av, Ha D = some (.lst av) → Hb D = some (.lst av) := fun g o av h => g.st _ _ h (o.nj D (.inr rfl))
          have gmo : ∀ {Ha Hb : Hp} {wa wb : Ws} {sb : List J}, Go c.T (fun b => O b ∨ b = D) Ha wa Hb wb sb → Go c.T O Ha wa Hb wb sb := fun g => g.mono fun b h => .inl h
          rcases hstep with ⟨s3, t1, t2⟩ | ⟨s3, xx, s4, t1, t2, t3, t4⟩
          · rw [t2] at q
            refine ⟨ρ1, w2, s2, _, J2, ?_⟩
            rw [t1]
            refine fun H4 w4 g4 => ?_
            have b4 := I2.step g4
            refine iteF ⟨rfl, hlt, hgo _ _ _ _ (g2.trans (gmo g4)), w4, s3, acc, av, b4, g2.trans (gmo g4), keepD g4 I2.oo _ hD2, ra.le g4.le, rds.le g4.le, q⟩
          · rw [t4] at q
            refine ⟨ρ1, w2, s2, _, J2, ?_⟩
            rw [t1]
            refine fun H4 w4 g4 => iteT ⟨ρ1, w4, s3, _, J2.step g4, ?_⟩
            rw [t2]
            refine fun v5 H5 w5 g5 rp5 _ => ?_
            have g45 := g4.trans g5
            have b5 := I2.step g45
            have hD5 := keepD g45 I2.oo _ hD2
            refine ⟨av, hD5, by rw [← ra.length, sizeLine_eq]; exact t3, ?_⟩
            have b6 : EI c (wipeE ρ own) (L2.wipe σ (own.map (·.2))) (upd H5 D (.lst (av ++ [v5]))) w5 s4 (fun b => O b ∨ b = D) := by
              refine b5.setO hD5 (.inr rfl) ?_ fun i es h1 h2 => ?_
              · cases q0 : c.H0 D with
                | none => rfl
                | some u => exact absurd hD (I1.go.al D (by rw [q0]; exact fun z => nomatch z))
              · have q1 := (I1.wipe own).sl i _ h1
                obtain ⟨a, us, k1, k2, _⟩ := q1
                rw [k1] at h2
                cases h2
                rw [hD] at k2; cases k2
            have l6 : Le (fun b => O b ∨ b = D) w5 H5 (fun b => O b ∨ b = D) w5 (upd H5 D (.lst (av ++ [v5]))) := ⟨fun _ _ h => h, fun b u h n => ⟨by rw [upd_ne (show b ≠ D from fun e => n (.inl (.inr e)))]; exact h, n⟩⟩
            have g6 : Go c.T O H1 w1 (upd H5 D (.lst (av ++ [v5]))) w5 s4 := by
              have gg := g2.trans (gmo g45)
              refine ⟨gg.hb, fun b o e n => ?_, fun b e => ?_, gg.nw, fun b h => (gg.kp b h).imp id fun z => ?_, b6.jok.mono fun b h => .inl h⟩
              · rw [upd_ne (show b ≠ D from fun q => by rw [q, hD] at e; cases e)]
                exact gg.st b o e n
              · by_cases q : b = D
                · rw [q, upd_same]; exact fun z => nomatch z
                · rw [upd_ne q]; exact gg.al b e
              · by_cases q : b = D
                · rw [q, upd_same]; exact fun z => nomatch z
                · rw [upd_ne q]; exact z
            exact ⟨rfl, hlt, hgo _ _ _ _ g6, w5, s4, acc ++ [xx.1], av ++ [v5], b6, g6, upd_same, ((ra.le g45.le).append (Reps.one rp5.rep)).le l6, (rds.le g45.le).le l6, q⟩
        · have e : i = vs.length := by omega
          subst e
          refine .inl ⟨k2 (Nat.le_refl _), ?_⟩
          rw [← rds.length, List.drop_length] at q
          have lb : Le (fun b => O b ∨ b = D) w2 H2 O w2 H2 := ⟨fun _ _ h => h, fun b u h n => ⟨h, fun z => n (z.imp (fun y => .inl y) id)⟩⟩
          refine (show ∀ v H' w', Go c.T O H1 w1 H' w' s2 → Rp c.G O w' H' rd (.lst acc) v → Own c.T c.G O (.lst acc, true) H1 H' w' s2 v → Q v H' from q) (.ref D) H2 w2 g2 (Rep.rp ?_ rd) fun _ => ⟨D, av, acc, rfl, rfl, hD, hD2, I2.oo.nj D (.inr rfl), I2.jok, ra⟩
          refine ⟨D, av, rfl, hD2, fun z => z.elim (fun y => I1.oo.al D y hD) (I2.oo.nj D (.inr rfl)), ra.le lb⟩
theorem e_lc {X : Cx} {c : Cf J} {W : WX} {rd : Bool} {elt tg iter : Expr} {ifs : List Expr} {scope : Scope} {own : List (Str × Nat)} {pos : Pos} {el it : E J} {t : Tg} {cs : Es J} (hK : X.K = c.G.K) (hc : X.calm = true) (hN : X.N.Nodup) (hi : PI X tg iter (tI c W true it))
    (ok : BlkOk X.N X.env.scope scope own) (hto : tgIn own t = true)
    (hg : ∀ (s : Shared) (H : Hp) (C : Addr) (cl : List (Str × Addr)) (fp : List Addr), PG (X.blk s H scope (compEnvC scope cl C X.env) fp) tg (gTg X.K t))
    (ht : ∀ (s : Shared) (H : Hp) (C : Addr) (cl : List (Str × Addr)) (fp : List Addr), PTs (X.blk s H scope (compEnvC scope cl C X.env) fp) ifs (tTs c WN cs))
    (he : ∀ (s : Shared) (H : Hp) (C : Addr) (cl : List (Str × Addr)) (fp : List Addr), PE (X.blk s H scope (compEnvC scope cl C X.env) fp) elt (tE c WN false el)) (hs : plE iter = true) :
    PE X (.ListComp elt [⟨tg, iter, ifs, 0⟩] scope pos) (tE c W rd (.lc el t it cs own)) := by
  exact PE.mono (pe_lc hc hN hi ok hg ht he (pl_folded hs)) fun σ H Q hq => lc_read hK hto hq
end DL

set_option Elab.async false
set_option linter.all false
set_option maxRecDepth 100000
set_option maxHeartbeats 8000000
/-! The data layer, part l: every expression of the small language. -/
namespace DL
open PySem PySem.Spec PyProof.Rows L2
variable {J : Type}

/-- a box's items -/
def GetOk (T : Jt J) (G : Gs) (get : J → List D) : Prop := ∀ {B : Addr → Prop} {H : Hp} {a : Addr} {j : J} {fp : List Addr}, T.rep B H a j fp → ∃ vs, H a = some (.lst vs) ∧ Reps G B ⟨[], []⟩ H (get j) vs
theorem box_le {O : Addr → Prop} {w : Ws} {H : Hp} : Le (Ban O w) ⟨[], []⟩ H O w H := ⟨fun i a h => by simp at h, fun b o h n => ⟨h, fun z => n (.inl z)⟩⟩
theorem JOk.box {T : Jt J} {O : Addr → Prop} {H : Hp} {w : Ws} {s : List J} (j : JOk T O H w s) {n : Nat} {a : Addr} {x : J} (h1 : w.hb[n]? = some a) (h2 : s[n]? = some x) : ∃ fp, w.fps[n]? = some fp ∧ T.rep (Ban O w) H a x fp := by
  have hn : n < w.fps.length := by rw [j.l2]; exact (List.getElem?_eq_some_iff.mp h2).1
  exact ⟨w.fps[n], List.getElem?_eq_getElem hn, j.at_ n a _ x h1 (List.getElem?_eq_getElem hn) h2⟩
section
variable {c : Cf J} {W : WX} {X : Cx} {rd : Bool} {a b : Expr} {x y : E J} {pos : Pos}
theorem e_bix {get : J → List D} (hG : GetOk c.T c.G get) (hK : X.K = c.G.K) (ha : PE X a (tE c W true x)) (hb : PE X b (tE c W false y)) (hp : plE b = true) : PE X (.Subscript a b pos) (tE c W rd (.bix get x y)) := by
  refine PE.mono (pe_ix ix_list ha hb (pl_ix hp)) fun σ H Q hq => ?_
  obtain ⟨ρ, w, s, O, I, p⟩ := hq
  simp only [ev] at p
  refine tE_then I p fun x1 s1 v1 H1 w1 I1 g1 r1 _ p1 => tE_int (α := Unit) I1 p1 fun k s2 H2 w2 I2 g2 p2 => ?_
  obtain ⟨xd, xu⟩ := x1
  cases xd with
  | box n =>
    simp only at p2
    obtain ⟨ad, had, rfl⟩ := (r1.non fun _ z => nomatch z)
    have had2 := g2.hb _ _ had
    cases e : s2[n]? with
    | none => rw [e] at p2; exact p2.elim
    | some j =>
      simp only [e, Option.bind_some] at p2
      obtain ⟨fp, _, rp⟩ := I2.jok.box had2 e
      obtain ⟨vs, hv, rs⟩ := hG rp
      cases e2 : atD (get j) k with
      | none => simp only [e2, Option.map_none, liftO] at p2; exact p2.elim
      | some dd =>
        simp only [e2, Option.map_some, liftO] at p2
        obtain ⟨v, hv2, rv⟩ := atD_at (rs.le box_le) e2
        exact ⟨ad, vs, k, v, rfl, rfl, SqL.of hv, hv2, p2.okS I2.jok (rv.rp rd) rfl⟩
  | _ => exact p2.elim
end
/-- the context's handled exception may be read -/
def XR (c : Cf J) (X : Cx) : Prop := ∀ (W : WX) (rd : Bool) (i : Nat) (x f : Str) (p pos : Pos), varB X.env.scope X.N i x = true → PE X (.Attribute (.Name x p) f pos) (tE c W rd (.xf i x f))
theorem xr_none {c : Cf J} {X : Cx} (h : c.xo = none) : XR c X := fun W rd i x f p pos _ => ⟨fun pins s σ H Q I hq => by
  obtain ⟨ρ, w, s', O, I', p⟩ := hq
  simp only [ev] at p
  cases e : ρ[i]? with
  | none => rw [e] at p; exact p.elim
  | some sl =>
    rw [e] at p
    cases sl with
    | xc cn fs =>
      obtain ⟨a, cls, d, h1, _⟩ := I'.sl i _ e
      rw [h] at h1; cases h1
    | _ => exact p.elim⟩

mutual
/-- what is asked of the callees, of the boxes' readings -/
def eOk (P : Sg → Fn J → Prop) (R : (J → List D) → Prop) : E J → Prop
  | .bin _ a b => eOk P R a ∧ eOk P R b
  | .neg a => eOk P R a
  | .not a => eOk P R a
  | .cmp _ a b => eOk P R a ∧ eOk P R b
  | .chn _ _ a b c => eOk P R a ∧ eOk P R b ∧ eOk P R c
  | .bop _ es => esOk P R es
  | .ife c a b => eOk P R c ∧ eOk P R a ∧ eOk P R b
  | .tup es => esOk P R es
  | .lst es => esOk P R es
  | .sub a i => eOk P R a ∧ eOk P R i
  | .slc a lo hi => eOk P R a ∧ eOk P R lo ∧ eOk P R hi
  | .rev a => eOk P R a
  | .call f g es => P f g ∧ esOk P R es
  | .callk f _ g es kes => P f g ∧ esOk P R es ∧ esOk P R kes
  | .bi _ es => esOk P R es
  | .isi a _ => eOk P R a
  | .isi2 a _ _ => eOk P R a
  | .fld a _ => eOk P R a
  | .lc el _ it cs _ => eOk P R el ∧ eOk P R it ∧ esOk P R cs
  | .rng1 a => eOk P R a
  | .rng2 a b => eOk P R a ∧ eOk P R b
  | .bix g a i => R g ∧ eOk P R a ∧ eOk P R i
  | .rpe a b => eOk P R a ∧ eOk P R b
  | _ => True
def esOk (P : Sg → Fn J → Prop) (R : (J → List D) → Prop) : Es J → Prop
  | .nil => True
  | .cons e es => eOk P R e ∧ esOk P R es
end
/-- the text's facts that the expressions need -/
structure Tf (t : Tx) (G : Gs) : Prop where
  hK : t.K = G.K
  hC : ClsOk G.K G
  bi : ∀ x ∈ biNames, t.mg x = none
section
variable (t : Tx) (h : Bool) (k : Nat) (c : Cf J)
structure EOk (e : E J) : Prop where
  pe : ∀ (X : Cx) (W : WX) (rd : Bool) (a : Expr), Gd t h k X W → XR c X → mt h false X.env.scope X.N e a = true → PE X a (tE c W rd e)
  pt : ∀ (X : Cx) (W : WX) (a : Expr), Gd t h k X W → XR c X → mt h false X.env.scope X.N e a = true → tstOk e = true → PT X a (tT c W e)
  pi : ∀ (X : Cx) (W : WX) (rd : Bool) (tg a : Expr), h = false → Gd t h k X W → XR c X → mt h true X.env.scope X.N e a = true → PI X tg a (tI c W rd e)
structure EsOk (es : Es J) : Prop where
  pa : ∀ (X : Cx) (W : WX) (rd : Bool) (as : List Expr), Gd t h k X W → XR c X → mts h X.env.scope X.N es as = true → PA X as (tA c W rd es)
  pk : ∀ (X : Cx) (W : WX) (rd : Bool) (as : List Keyword), Gd t h k X W → XR c X → mtk h X.env.scope X.N es as = true → PK X as (tA c W rd es)
  pb : ∀ (X : Cx) (W : WX) (o : BoolOp) (as : List Expr) (pos : Pos), Gd t h k X W → XR c X → mts h X.env.scope X.N es as = true → 0 < es.len → PE X (.BoolOp o as pos) (tEb c W o es)
  pw : ∀ (X : Cx) (W : WX) (o : BoolOp) (as : List Expr) (pos : Pos), Gd t h k X W → XR c X → mts h X.env.scope X.N es as = true → tstsA es = true → 0 < es.len → PW X (.BoolOp o as pos) (tTb c W o es)
  ps : ∀ (X : Cx) (W : WX) (as : List Expr), Gd t h k X W → XR c X → mts h X.env.scope X.N es as = true → tstsOk es = true → PTs X as (tTs c W es)
end
section
variable {t : Tx} {h : Bool} {k : Nat} {c : Cf J} {x y z : E J} {es kes : Es J}
theorem mts_pl {h : Bool} {sc : Scope} {N : List Str} : ∀ {es : Es J} {as : List Expr}, mts h sc N es as = true → as.length = es.len ∧ ∀ a ∈ as, plE a = true
  | .nil, [], _ => ⟨rfl, fun _ h => absurd h (by simp)⟩
  | .nil, _ :: _, m => by simp [mts] at m
  | .cons _ _, [], m => by simp [mts] at m
  | .cons e es, a :: as, m => by
    simp only [mts, Bool.and_eq_true] at m
    obtain ⟨h1, h2⟩ := mts_pl m.2
    refine ⟨by simp [Es.len, h1], fun b hb => ?_⟩
    rcases List.mem_cons.mp hb with rfl | hb
    · exact mt_pl m.1
    · exact h2 b hb
/-- walked: by the value -/
theorem pi_of (T : Tf t c.G) {e : E J} (hpe : ∀ (it : Bool) (X : Cx) (W : WX) (rd : Bool) (a : Expr), Gd t h k X W → XR c X → mt h it X.env.scope X.N e a = true → PE X a (tE c W rd e)) :
    ∀ (X : Cx) (W : WX) (rd : Bool) (tg a : Expr), h = false → Gd t h k X W → XR c X → mt h true X.env.scope X.N e a = true → PI X tg a (tI c W rd e) := fun X W rd tg a _ gd xr m => i_seq (gd.K.trans T.hK) (hpe true X W rd a gd xr m)
theorem glG {X : Cx} {x : Str} (h : glB X.env.scope x = true) : Gl X x := (glB_gl h).1
theorem t_not' (hx : EOk t h k c x) {X : Cx} {W : WX} {p : Expr} {pos : Pos} (gd : Gd t h k X W) (xr : XR c X) (m : mt h false X.env.scope X.N x p = true) (tk : tstOk x = true) : PT X (.UnaryOp .Not p pos) (tT c W (.not x)) := by
  exact t_not (hx.pt X W p gd xr m tk)
theorem ty_bi {x : Str} (h : x ∈ tyNames) : x ∈ biNames := by
  unfold tyNames at h
  simp only [List.mem_cons, List.not_mem_nil, or_false] at h
  rcases h with rfl | rfl | rfl | rfl | rfl <;> decide
theorem fs_bi {x : Str} (h : x ∈ biFs) : x ∈ biNames := by
  unfold biFs at h
  simp only [List.mem_cons, List.not_mem_nil, or_false] at h
  rcases h with rfl | rfl | rfl | rfl | rfl | rfl | rfl <;> decide
theorem o_ok {X : Cx} {W : WX} {l : Option Expr} (hx : EOk t h k c x) (gd : Gd t h k X W) (xr : XR c X) (m : (match l with | none => isSkip x | some y => mt h false X.env.scope X.N x y && !isSkip x) = true) : PO X l (tO c W x) := by
  cases l with
  | none =>
    cases x with
    | skip => exact o_none
    | _ => cases m
  | some y =>
    simp only [Bool.and_eq_true, Bool.not_eq_true'] at m
    exact o_some (hx.pe X W false y gd xr m.1) m.2
theorem bi_ok {X : Cx} {W : WX} {rd : Bool} {f : Str} {as : List Expr} {p pos : Pos} (T : Tf t c.G) (hs : EsOk t h k c es) (gd : Gd t h k X W) (xr : XR c X) (m1 : f ∈ biFs) (m2 : glB X.env.scope f = true) (m3 : mts h X.env.scope X.N es as = true) (m4 : 0 < es.len)
    (m5 : (!h || decide (f ≠ "max" ∧ f ≠ "min")) = true) : PE X (.Call (.Name f p) as [] pos) (tE c W rd (.bi f es)) := by
  obtain ⟨q1, q2⟩ := mts_pl m3
  cases as with
  | nil => simp at q1; omega
  | cons a as =>
    refine e_bi m1 (glG m2) (by rw [gd.mg]; exact T.bi _ (fs_bi m1)) (gd.K.trans T.hK) ?_ (q2 a List.mem_cons_self) (fun b hb => q2 b (List.mem_cons_of_mem _ hb)) (hs.pa X W true _ gd xr m3)
    cases h with
    | false => exact .inl (gd.cold rfl).1
    | true => exact .inr (by simpa using m5)
theorem call_ok {X : Cx} {W : WX} {rd : Bool} {f : Sg} {g : Fn J} {as : List Expr} {p pos : Pos} (hC : ClOk t h k c.T c.G f g) (hs : EsOk t h k c es) (gd : Gd t h k X W) (xr : XR c X) (m1 : glB X.env.scope f.x = true) (m2 : mts h X.env.scope X.N es as = true) (m3 : es.len = f.ps.length) (m4 : 0 < es.len) :
    PE X (.Call (.Name f.x p) as [] pos) (tE c W rd (.call f g es)) := by
  obtain ⟨q1, q2⟩ := mts_pl m2
  cases as with
  | nil => simp at q1; omega
  | cons a as => exact e_call hC gd m1 (q2 a List.mem_cons_self) (fun b hb => q2 b (List.mem_cons_of_mem _ hb)) (by simp at q1; omega) m3 (hs.pa X W false _ gd xr m2)
theorem callk_ok {X : Cx} {W : WX} {rd : Bool} {f : Sg} {ks : List Str} {g : Fn J} {as : List Expr} {kws : List Keyword} {p pos : Pos} (hC : ClOk t h k c.T c.G f g) (hs : EsOk t h k c es) (hk : EsOk t h k c kes) (gd : Gd t h k X W) (xr : XR c X) (m0 : (!h) = true) (m1 : glB X.env.scope f.x = true)
    (m2 : mts h X.env.scope X.N es as = true) (m3 : mtk h X.env.scope X.N kes kws = true) (m4 : kws.map (·.arg) = ks.map some) (m5 : (es.len, ks) ∈ f.kl) : PE X (.Call (.Name f.x p) as kws pos) (tE c W rd (.callk f ks g es kes)) := by
  obtain ⟨q1, q2⟩ := mts_pl m2
  cases h with
  | true => cases m0
  | false => exact e_callk hC gd m1 q2 (by rw [q1]; exact m5) m4 q1.symm (mtk_len m3).symm (hs.pa X W false _ gd xr m2) (hk.pk X W false _ gd xr m3)
theorem rpe_ok {X : Cx} {W : WX} {rd : Bool} {a b : Expr} {q1 q2 q3 q4 pos : Pos} (T : Tf t c.G) (hx : EOk t h k c x) (hy : EOk t h k c y) (gd : Gd t h k X W) (xr : XR c X) (m0 : (!h) = true) (m1 : glB X.env.scope "repr" = true) (m2 : mt h false X.env.scope X.N x a = true) (m3 : mt h false X.env.scope X.N y b = true) :
    PE X (.Compare (.Call (.Name "repr" q1) [a] [] q2) [.Eq] [.Call (.Name "repr" q3) [b] [] q4] pos) (tE c W rd (.rpe x y)) := by
  cases h with
  | true => cases m0
  | false => exact e_rpe (gd.K.trans T.hK) (gd.gr rfl) (by have := gd.room.un; omega) (glG m1) (by rw [gd.mg]; exact T.bi _ (by decide)) (mt_pl m2) (mt_pl m3) (hx.pe X W true a gd xr m2) (hy.pe X W true b gd xr m3)
theorem gd_blk {X : Cx} {W : WX} (gd : Gd t false k X W) (s : Shared) (H : Hp) (scope : Scope) (cenv : PySem.Env) (fp : List Addr) : Gd t false k (X.blk s H scope cenv fp) WN :=
  ⟨gd.pr, gd.wd, gd.K, gd.mg, gd.base, gd.nd, fun u s' ⟨a, B, sI, pins, σ, H, cls, d, e, I, nb, up, sky, na, os, ag, w⟩ => w.elim, gd.room, gd.cold, gd.gr, fun z => nomatch z⟩
theorem mtTs_pg {X : Cx} {sc : Scope} (hN : X.N.Nodup) (hfn : ∀ x, locB sc x = true → Loc X.env.scope x ∧ (X.fn x = true ∨ X.env.scope.names.lookup x = some .local)) : ∀ {l : List (Nat × Str)} {es : List Expr}, mtTs sc X.N l es = true → PGs X es (gTgs l) ∧ (assignEach es X.env).length = l.length ∧ (assignEach es X.env).findIdx? (·.1) = none
  | [], [], _ => ⟨pgs_nil, rfl, rfl⟩
  | [], _ :: _, m => by simp [mtTs] at m
  | _ :: _, [], m => by simp [mtTs] at m
  | (i, x) :: l, e :: es, m => by
    cases e with
    | Name y p =>
      simp only [mtTs, Bool.and_eq_true, decide_eq_true_eq] at m
      obtain ⟨⟨⟨rfl, m1⟩, m2⟩, m3⟩ := m
      obtain ⟨r1, r2, r3⟩ := mtTs_pg hN hfn m3
      refine ⟨pgs_cons (pg_name hN m1 (hfn x m2).1 (hfn x m2).2) r1, ?_, ?_⟩
      · simp only [assignEach, List.length_cons, r2]
      · simp only [assignEach, List.findIdx?_cons, r3]
        rfl
    | _ => simp [mtTs] at m
theorem mtT_pg {X : Cx} {sc : Scope} {tt : Tg} {tg : Expr} (hc : X.calm = true) (hN : X.N.Nodup) (hfn : ∀ x, locB sc x = true → Loc X.env.scope x ∧ (X.fn x = true ∨ X.env.scope.names.lookup x = some .local)) (m : mtT sc X.N tt tg = true) : PG X tg (gTg X.K tt) := by
  cases tt with
  | nm i x =>
    cases tg with
    | Name y p =>
      simp only [mtT, Bool.and_eq_true, decide_eq_true_eq] at m
      obtain ⟨⟨rfl, m1⟩, m2⟩ := m
      exact pg_name hN m1 (hfn x m2).1 (hfn x m2).2
    | _ => simp [mtT] at m
  | tp l =>
    cases tg with
    | Tuple es kk p =>
      simp only [mtT] at m
      obtain ⟨r1, r2, r3⟩ := mtTs_pg hN hfn m
      exact pg_tup hc r1 r2 r3
    | _ => simp [mtT] at m
theorem lc_blk {X : Cx} {W : WX} {p tg : Expr} {ifs : List Expr} {sc : Scope} {tt : Tg} (hx : EOk t false k c x) (hs : EsOk t false k c es) (hxo : c.xo = none) (gd : Gd t false k X W)
    (m3 : mtT sc X.N tt tg = true) (m5 : mt false false (relS sc X.env.scope) X.N x p = true) (m6 : mts false (relS sc X.env.scope) X.N es ifs = true) (m7 : tstsOk es = true) :
    (∀ (s : Shared) (H : Hp) (C : Addr) (cl : List (Str × Addr)) (fp : List Addr), PG (X.blk s H sc (compEnvC sc cl C X.env) fp) tg (gTg X.K tt)) ∧
    (∀ (s : Shared) (H : Hp) (C : Addr) (cl : List (Str × Addr)) (fp : List Addr), PTs (X.blk s H sc (compEnvC sc cl C X.env) fp) ifs (tTs c WN es)) ∧
    (∀ (s : Shared) (H : Hp) (C : Addr) (cl : List (Str × Addr)) (fp : List Addr), PE (X.blk s H sc (compEnvC sc cl C X.env) fp) p (tE c WN false x)) := by
  have hz := gd.cold rfl
  refine ⟨fun s H C cl fp => ?_, fun s H C cl fp => ?_, fun s H C cl fp => ?_⟩
  · refine mtT_pg (sc := sc) hz.1 gd.nd (fun x hx => ?_) m3
    rcases locB_loc hx with q | q
    · have q2 := lookup_relS_keep (sc := X.env.scope) (k := .local) (by decide) q
      exact ⟨.inl q2, .inr q2⟩
    · have q2 := lookup_relS_keep (sc := X.env.scope) (k := .cell) (by decide) q
      exact ⟨.inr q2, .inl (by show (sc.names.lookup x == some NameKind.cell) = true; rw [q]; rfl)⟩
  · exact hs.ps _ _ ifs (gd_blk gd s H sc _ fp) (xr_none hxo) m6 m7
  · exact hx.pe _ _ false p (gd_blk gd s H sc _ fp) (xr_none hxo) m5
theorem lc_ok {X : Cx} {W : WX} {rd : Bool} {p tg ix : Expr} {ifs : List Expr} {az : Int} {sc : Scope} {pos : Pos} {tt : Tg} {own : List (Str × Nat)} (T : Tf t c.G) (hx : EOk t h k c x) (hy : EOk t h k c y) (hs : EsOk t h k c es) (hxo : h = false → c.xo = none) (gd : Gd t h k X W) (xr : XR c X)
    (m0 : (!h) = true) (m1 : az = 0) (m2 : blkC X.N X.env.scope sc own = true) (m3 : mtT sc X.N tt tg = true) (m4 : tgIn own tt = true) (m5 : mt h false (relS sc X.env.scope) X.N x p = true) (m6 : mts h (relS sc X.env.scope) X.N es ifs = true) (m7 : tstsOk es = true) (m8 : mt h true X.env.scope X.N y ix = true) :
    PE X (.ListComp p [⟨tg, ix, ifs, az⟩] sc pos) (tE c W rd (.lc x tt y es own)) := by
  cases h with
  | true => cases m0
  | false =>
    subst m1
    obtain ⟨b1, b2, b3⟩ := lc_blk hx hs (hxo rfl) gd m3 m5 m6 m7
    exact e_lc (gd.K.trans T.hK) (gd.cold rfl).1 gd.nd (hy.pi X W true tg ix rfl gd xr m8) (blkOk_by m2) m4 b1 b2 b3 (mt_pl m8)
theorem ok_var (T : Tf t c.G) (i : Nat) (x : Str) : EOk t h k c (.var i x) := by
  have pe : ∀ (it : Bool) (X : Cx) (W : WX) (rd : Bool) (a : Expr), Gd t h k X W → XR c X → mt h it X.env.scope X.N (.var i x : E J) a = true → PE X a (tE c W rd (.var i x)) := fun it X W rd a gd xr m => by
    cases a with
    | Name y p =>
      simp only [mt, Bool.and_eq_true, decide_eq_true_eq] at m
      obtain ⟨rfl, m⟩ := m
      exact e_var m
    | _ => simp [mt] at m
  refine ⟨pe false, fun X W a gd xr m tk => ?_, pi_of T pe⟩
  have qq := pe false X W false a gd xr m
  cases a with
  | Name y p =>
    exact t_val qq fun _ => rfl
  | _ => simp [mt] at m
theorem ok_non (T : Tf t c.G)  : EOk t h k c (.non) := by
  have pe : ∀ (it : Bool) (X : Cx) (W : WX) (rd : Bool) (a : Expr), Gd t h k X W → XR c X → mt h it X.env.scope X.N (.non : E J) a = true → PE X a (tE c W rd (.non)) := fun it X W rd a gd xr m => by
    cases a with
    | Constant v kk pos =>
      cases v with
      | none =>
        exact e_const pe_non (dd := .non) (fun _ _ => by simp only [ev]) fun _ _ _ => rfl
      | _ => simp [mt] at m
    | _ => simp [mt] at m
  refine ⟨pe false, fun X W a gd xr m tk => ?_, pi_of T pe⟩
  have qq := pe false X W false a gd xr m
  cases a with
  | Constant v kk pos =>
    cases v with
    | none =>
      exact t_val qq fun _ => rfl
    | _ => simp [mt] at m
  | _ => simp [mt] at m
theorem ok_bl (T : Tf t c.G) (b : Bool) : EOk t h k c (.bl b) := by
  have pe : ∀ (it : Bool) (X : Cx) (W : WX) (rd : Bool) (a : Expr), Gd t h k X W → XR c X → mt h it X.env.scope X.N (.bl b : E J) a = true → PE X a (tE c W rd (.bl b)) := fun it X W rd a gd xr m => by
    cases a with
    | Constant v kk pos =>
      cases v with
      | bool b' =>
        simp only [mt, Bool.and_eq_true, decide_eq_true_eq] at m
        obtain rfl := m
        exact e_const pe_bl (dd := .bl b) (fun _ _ => by simp only [ev]) fun _ _ _ => rfl
      | _ => simp [mt] at m
    | _ => simp [mt] at m
  refine ⟨pe false, fun X W a gd xr m tk => ?_, pi_of T pe⟩
  have qq := pe false X W false a gd xr m
  cases a with
  | Constant v kk pos =>
    cases v with
    | bool b' =>
      exact t_val qq fun _ => rfl
    | _ => simp [mt] at m
  | _ => simp [mt] at m
theorem ok_int (T : Tf t c.G) (i : Int) : EOk t h k c (.int i) := by
  have pe : ∀ (it : Bool) (X : Cx) (W : WX) (rd : Bool) (a : Expr), Gd t h k X W → XR c X → mt h it X.env.scope X.N (.int i : E J) a = true → PE X a (tE c W rd (.int i)) := fun it X W rd a gd xr m => by
    cases a with
    | Constant v kk pos =>
      cases v with
      | int b' =>
        simp only [mt, Bool.and_eq_true, decide_eq_true_eq] at m
        obtain rfl := m
        exact e_const pe_int (dd := .int i) (fun _ _ => by simp only [ev]) fun _ _ _ => rfl
      | _ => simp [mt] at m
    | _ => simp [mt] at m
  refine ⟨pe false, fun X W a gd xr m tk => ?_, pi_of T pe⟩
  have qq := pe false X W false a gd xr m
  cases a with
  | Constant v kk pos =>
    cases v with
    | int b' =>
      exact t_val qq fun _ => rfl
    | _ => simp [mt] at m
  | _ => simp [mt] at m
theorem ok_str (T : Tf t c.G) (x : Str) : EOk t h k c (.str x) := by
  have pe : ∀ (it : Bool) (X : Cx) (W : WX) (rd : Bool) (a : Expr), Gd t h k X W → XR c X → mt h it X.env.scope X.N (.str x : E J) a = true → PE X a (tE c W rd (.str x)) := fun it X W rd a gd xr m => by
    cases a with
    | Constant v kk pos =>
      cases v with
      | str b' =>
        simp only [mt, Bool.and_eq_true, decide_eq_true_eq] at m
        obtain rfl := m
        exact e_const pe_str (dd := .str x) (fun _ _ => by simp only [ev]) fun _ _ _ => rfl
      | _ => simp [mt] at m
    | _ => simp [mt] at m
  refine ⟨pe false, fun X W a gd xr m tk => ?_, pi_of T pe⟩
  have qq := pe false X W false a gd xr m
  cases a with
  | Constant v kk pos =>
    cases v with
    | str b' =>
      exact t_val qq fun _ => rfl
    | _ => simp [mt] at m
  | _ => simp [mt] at m
theorem ok_bin (T : Tf t c.G) (o : Operator) (hx : EOk t h k c x) (hy : EOk t h k c y) : EOk t h k c (.bin o x y) := by
  have pe : ∀ (it : Bool) (X : Cx) (W : WX) (rd : Bool) (a : Expr), Gd t h k X W → XR c X → mt h it X.env.scope X.N (.bin o x y : E J) a = true → PE X a (tE c W rd (.bin o x y)) := fun it X W rd a gd xr m => by
    cases a with
    | BinOp p o' q pos =>
      simp only [mt, Bool.and_eq_true, decide_eq_true_eq] at m
      obtain ⟨⟨rfl, m1⟩, m2⟩ := m
      exact e_bin (gd.K.trans T.hK) (hx.pe X W true p gd xr m1) (hy.pe X W true q gd xr m2)
    | _ => simp [mt] at m
  refine ⟨pe false, fun X W a gd xr m tk => ?_, pi_of T pe⟩
  have qq := pe false X W false a gd xr m
  cases a with
  | BinOp p o' q pos =>
    exact t_val qq fun _ => rfl
  | _ => simp [mt] at m
theorem ok_neg (T : Tf t c.G) (hx : EOk t h k c x) : EOk t h k c (.neg x) := by
  have pe : ∀ (it : Bool) (X : Cx) (W : WX) (rd : Bool) (a : Expr), Gd t h k X W → XR c X → mt h it X.env.scope X.N (.neg x : E J) a = true → PE X a (tE c W rd (.neg x)) := fun it X W rd a gd xr m => by
    cases a with
    | UnaryOp o p pos =>
      cases o with
      | USub =>
        simp only [mt, Bool.and_eq_true, decide_eq_true_eq] at m
        exact e_neg (hx.pe X W false p gd xr m)
      | _ => simp [mt] at m
    | _ => simp [mt] at m
  refine ⟨pe false, fun X W a gd xr m tk => ?_, pi_of T pe⟩
  have qq := pe false X W false a gd xr m
  cases a with
  | UnaryOp o p pos =>
    cases o with
    | USub =>
      exact t_val qq fun _ => rfl
    | _ => simp [mt] at m
  | _ => simp [mt] at m
theorem ok_not (T : Tf t c.G) (hx : EOk t h k c x) : EOk t h k c (.not x) := by
  have pe : ∀ (it : Bool) (X : Cx) (W : WX) (rd : Bool) (a : Expr), Gd t h k X W → XR c X → mt h it X.env.scope X.N (.not x : E J) a = true → PE X a (tE c W rd (.not x)) := fun it X W rd a gd xr m => by
    cases a with
    | UnaryOp o p pos =>
      cases o with
      | Not =>
        simp only [mt, Bool.and_eq_true, decide_eq_true_eq] at m
        exact e_not (hx.pe X W false p gd xr m)
      | _ => simp [mt] at m
    | _ => simp [mt] at m
  refine ⟨pe false, fun X W a gd xr m tk => ?_, pi_of T pe⟩
  cases a with
  | UnaryOp o p pos =>
    cases o with
    | Not =>
      simp only [mt, Bool.and_eq_true, decide_eq_true_eq] at m
      exact t_not' hx gd xr m tk
    | _ => simp [mt] at m
  | _ => simp [mt] at m
theorem ok_cmp (T : Tf t c.G) (o : CmpOp) (hx : EOk t h k c x) (hy : EOk t h k c y) : EOk t h k c (.cmp o x y) := by
  have pe : ∀ (it : Bool) (X : Cx) (W : WX) (rd : Bool) (a : Expr), Gd t h k X W → XR c X → mt h it X.env.scope X.N (.cmp o x y : E J) a = true → PE X a (tE c W rd (.cmp o x y)) := fun it X W rd a gd xr m => by
    cases a with
    | Compare p ops qs pos =>
      cases ops with
      | cons o1 ops1 =>
        cases ops1 with
        | nil =>
          cases qs with
          | cons q1 qs1 =>
            cases qs1 with
            | nil =>
              simp only [mt, Bool.and_eq_true, decide_eq_true_eq] at m
              obtain ⟨⟨rfl, m1⟩, m2⟩ := m
              exact e_cmp (gd.K.trans T.hK) gd.un (hx.pe X W true p gd xr m1) (hy.pe X W true q1 gd xr m2) (mt_pl m2)
            | _ => simp [mt] at m
          | _ => simp [mt] at m
        | _ => simp [mt] at m
      | _ => simp [mt] at m
    | _ => simp [mt] at m
  refine ⟨pe false, fun X W a gd xr m tk => ?_, pi_of T pe⟩
  cases a with
  | Compare p ops qs pos =>
    cases ops with
    | cons o1 ops1 =>
      cases ops1 with
      | nil =>
        cases qs with
        | cons q1 qs1 =>
          cases qs1 with
          | nil =>
            simp only [mt, Bool.and_eq_true, decide_eq_true_eq] at m
            obtain ⟨⟨rfl, m1⟩, m2⟩ := m
            exact t_cmp (gd.K.trans T.hK) gd.un (hx.pe X W true p gd xr m1) (hy.pe X W true q1 gd xr m2) (mt_pl m2)
          | _ => simp [mt] at m
        | _ => simp [mt] at m
      | _ => simp [mt] at m
    | _ => simp [mt] at m
  | _ => simp [mt] at m
theorem ok_chn (T : Tf t c.G) (o o2 : CmpOp) (hx : EOk t h k c x) (hy : EOk t h k c y) (hz : EOk t h k c z) : EOk t h k c (.chn o o2 x y z) := by
  have pe : ∀ (it : Bool) (X : Cx) (W : WX) (rd : Bool) (a : Expr), Gd t h k X W → XR c X → mt h it X.env.scope X.N (.chn o o2 x y z : E J) a = true → PE X a (tE c W rd (.chn o o2 x y z)) := fun it X W rd a gd xr m => by
    cases a with
    | Compare p ops qs pos =>
      cases ops with
      | cons o1 ops1 =>
        cases ops1 with
        | cons o3 ops2 =>
          cases ops2 with
          | nil =>
            cases qs with
            | cons q1 qs1 =>
              cases qs1 with
              | cons q2 qs2 =>
                cases qs2 with
                | nil =>
                  simp only [mt, Bool.and_eq_true, decide_eq_true_eq] at m
                  obtain ⟨⟨⟨⟨rfl, rfl⟩, m1⟩, m2⟩, m3⟩ := m
                  exact e_chn (gd.K.trans T.hK) gd.un (hx.pe X W true p gd xr m1) (hy.pe X W true q1 gd xr m2) (hz.pe X W true q2 gd xr m3) (mt_pl m3)
                | _ => simp [mt] at m
              | _ => simp [mt] at m
            | _ => simp [mt] at m
          | _ => simp [mt] at m
        | _ => simp [mt] at m
      | _ => simp [mt] at m
    | _ => simp [mt] at m
  refine ⟨pe false, fun X W a gd xr m tk => ?_, pi_of T pe⟩
  cases a with
  | Compare p ops qs pos =>
    cases ops with
    | cons o1 ops1 =>
      cases ops1 with
      | cons o3 ops2 =>
        cases ops2 with
        | nil =>
          cases qs with
          | cons q1 qs1 =>
            cases qs1 with
            | cons q2 qs2 =>
              cases qs2 with
              | nil =>
                simp only [mt, Bool.and_eq_true, decide_eq_true_eq] at m
                obtain ⟨⟨⟨⟨rfl, rfl⟩, m1⟩, m2⟩, m3⟩ := m
                exact t_chn (gd.K.trans T.hK) gd.un (hx.pe X W true p gd xr m1) (hy.pe X W true q1 gd xr m2) (hz.pe X W true q2 gd xr m3) (mt_pl m3)
              | _ => simp [mt] at m
            | _ => simp [mt] at m
          | _ => simp [mt] at m
        | _ => simp [mt] at m
      | _ => simp [mt] at m
    | _ => simp [mt] at m
  | _ => simp [mt] at m
theorem ok_bop (T : Tf t c.G) (o : BoolOp) (hs : EsOk t h k c es) : EOk t h k c (.bop o es) := by
  have pe : ∀ (it : Bool) (X : Cx) (W : WX) (rd : Bool) (a : Expr), Gd t h k X W → XR c X → mt h it X.env.scope X.N (.bop o es : E J) a = true → PE X a (tE c W rd (.bop o es)) := fun it X W rd a gd xr m => by
    cases a with
    | BoolOp o' ps pos =>
      simp only [mt, Bool.and_eq_true, decide_eq_true_eq] at m
      obtain ⟨⟨⟨rfl, m1⟩, m2⟩, m3⟩ := m
      exact e_bop (hs.pb X W o ps pos gd xr m1 m3)
    | _ => simp [mt] at m
  refine ⟨pe false, fun X W a gd xr m tk => ?_, pi_of T pe⟩
  cases a with
  | BoolOp o' ps pos =>
    simp only [mt, Bool.and_eq_true, decide_eq_true_eq] at m
    obtain ⟨⟨⟨rfl, m1⟩, m2⟩, m3⟩ := m
    exact t_bop (hs.pw X W o ps pos gd xr m1 m2 m3)
  | _ => simp [mt] at m
theorem ok_ife (T : Tf t c.G) (hz : EOk t h k c z) (hx : EOk t h k c x) (hy : EOk t h k c y) : EOk t h k c (.ife z x y) := by
  have pe : ∀ (it : Bool) (X : Cx) (W : WX) (rd : Bool) (a : Expr), Gd t h k X W → XR c X → mt h it X.env.scope X.N (.ife z x y : E J) a = true → PE X a (tE c W rd (.ife z x y)) := fun it X W rd a gd xr m => by
    cases a with
    | IfExp p q r pos =>
      simp only [mt, Bool.and_eq_true, decide_eq_true_eq] at m
      obtain ⟨⟨⟨m0, m1⟩, m2⟩, m3⟩ := m
      exact e_ife (hz.pt X W p gd xr m1 m0) (hx.pe X W false q gd xr m2) (hy.pe X W false r gd xr m3)
    | _ => simp [mt] at m
  refine ⟨pe false, fun X W a gd xr m tk => ?_, pi_of T pe⟩
  exact absurd tk (by simp [tstOk])
theorem ok_tup (T : Tf t c.G) (hs : EsOk t h k c es) : EOk t h k c (.tup es) := by
  have pe : ∀ (it : Bool) (X : Cx) (W : WX) (rd : Bool) (a : Expr), Gd t h k X W → XR c X → mt h it X.env.scope X.N (.tup es : E J) a = true → PE X a (tE c W rd (.tup es)) := fun it X W rd a gd xr m => by
    cases a with
    | Tuple ps kk pos =>
      simp only [mt, Bool.and_eq_true, decide_eq_true_eq] at m
      exact e_tup (hs.pa X W false ps gd xr m)
    | _ => simp [mt] at m
  refine ⟨pe false, fun X W a gd xr m tk => ?_, pi_of T pe⟩
  have qq := pe false X W false a gd xr m
  cases a with
  | Tuple ps kk pos =>
    exact t_val qq fun _ => rfl
  | _ => simp [mt] at m
theorem ok_lst (T : Tf t c.G) (hs : EsOk t h k c es) : EOk t h k c (.lst es) := by
  have pe : ∀ (it : Bool) (X : Cx) (W : WX) (rd : Bool) (a : Expr), Gd t h k X W → XR c X → mt h it X.env.scope X.N (.lst es : E J) a = true → PE X a (tE c W rd (.lst es)) := fun it X W rd a gd xr m => by
    cases a with
    | List ps pos =>
      simp only [mt, Bool.and_eq_true, decide_eq_true_eq] at m
      exact e_lst (hs.pa X W false ps gd xr m)
    | _ => simp [mt] at m
  refine ⟨pe false, fun X W a gd xr m tk => ?_, pi_of T pe⟩
  have qq := pe false X W false a gd xr m
  cases a with
  | List ps pos =>
    exact t_val qq fun _ => rfl
  | _ => simp [mt] at m
theorem ok_bix (T : Tf t c.G) (get : J → List D) (hG : GetOk c.T c.G get) (hx : EOk t h k c x) (hy : EOk t h k c y) : EOk t h k c (.bix get x y) := by
  have pe : ∀ (it : Bool) (X : Cx) (W : WX) (rd : Bool) (a : Expr), Gd t h k X W → XR c X → mt h it X.env.scope X.N (.bix get x y : E J) a = true → PE X a (tE c W rd (.bix get x y)) := fun it X W rd a gd xr m => by
    cases a with
    | Subscript p q pos =>
      simp only [mt, Bool.and_eq_true, decide_eq_true_eq] at m
      obtain ⟨m1, m2⟩ := m
      exact e_bix hG (gd.K.trans T.hK) (hx.pe X W true p gd xr m1) (hy.pe X W false q gd xr m2) (mt_pl m2)
    | _ => simp [mt] at m
  refine ⟨pe false, fun X W a gd xr m tk => ?_, pi_of T pe⟩
  have qq := pe false X W false a gd xr m
  cases a with
  | Subscript p q pos =>
    exact t_val qq fun _ => rfl
  | _ => simp [mt] at m
theorem ok_sub (T : Tf t c.G) (hx : EOk t h k c x) (hy : EOk t h k c y) : EOk t h k c (.sub x y) := by
  have pe : ∀ (it : Bool) (X : Cx) (W : WX) (rd : Bool) (a : Expr), Gd t h k X W → XR c X → mt h it X.env.scope X.N (.sub x y : E J) a = true → PE X a (tE c W rd (.sub x y)) := fun it X W rd a gd xr m => by
    cases a with
    | Subscript p q pos =>
      simp only [mt, Bool.and_eq_true, decide_eq_true_eq] at m
      obtain ⟨m1, m2⟩ := m
      exact e_sub (gd.K.trans T.hK) (hx.pe X W true p gd xr m1) (hy.pe X W false q gd xr m2) (mt_pl m2)
    | _ => simp [mt] at m
  refine ⟨pe false, fun X W a gd xr m tk => ?_, pi_of T pe⟩
  have qq := pe false X W false a gd xr m
  cases a with
  | Subscript p q pos =>
    exact t_val qq fun _ => rfl
  | _ => simp [mt] at m
theorem ok_fld (T : Tf t c.G) (f : Str) (hx : EOk t h k c x) : EOk t h k c (.fld x f) := by
  have pe : ∀ (it : Bool) (X : Cx) (W : WX) (rd : Bool) (a : Expr), Gd t h k X W → XR c X → mt h it X.env.scope X.N (.fld x f : E J) a = true → PE X a (tE c W rd (.fld x f)) := fun it X W rd a gd xr m => by
    cases a with
    | Attribute p f' pos =>
      simp only [mt, Bool.and_eq_true, decide_eq_true_eq] at m
      obtain ⟨⟨rfl, m1⟩, m2⟩ := m
      exact e_fld (gd.K.trans T.hK) T.hC (hx.pe X W false p gd xr m1) m2
    | _ => simp [mt] at m
  refine ⟨pe false, fun X W a gd xr m tk => ?_, pi_of T pe⟩
  have qq := pe false X W false a gd xr m
  cases a with
  | Attribute p f' pos =>
    exact t_val qq fun _ => rfl
  | _ => simp [mt] at m
theorem ok_xf (T : Tf t c.G) (i : Nat) (x f : Str) : EOk t h k c (.xf i x f) := by
  have pe : ∀ (it : Bool) (X : Cx) (W : WX) (rd : Bool) (a : Expr), Gd t h k X W → XR c X → mt h it X.env.scope X.N (.xf i x f : E J) a = true → PE X a (tE c W rd (.xf i x f)) := fun it X W rd a gd xr m => by
    cases a with
    | Attribute p f' pos =>
      cases p with
      | Name y yp =>
        simp only [mt, Bool.and_eq_true, decide_eq_true_eq] at m
        obtain ⟨⟨rfl, rfl⟩, m1⟩ := m
        exact xr W rd i x f _ pos m1
      | _ => simp [mt] at m
    | _ => simp [mt] at m
  refine ⟨pe false, fun X W a gd xr m tk => ?_, pi_of T pe⟩
  have qq := pe false X W false a gd xr m
  cases a with
  | Attribute p f' pos =>
    cases p with
    | Name y yp =>
      exact t_val qq fun _ => rfl
    | _ => simp [mt] at m
  | _ => simp [mt] at m
theorem ok_slc (T : Tf t c.G) (hx : EOk t h k c x) (hy : EOk t h k c y) (hz : EOk t h k c z) : EOk t h k c (.slc x y z) := by
  have pe : ∀ (it : Bool) (X : Cx) (W : WX) (rd : Bool) (a : Expr), Gd t h k X W → XR c X → mt h it X.env.scope X.N (.slc x y z : E J) a = true → PE X a (tE c W rd (.slc x y z)) := fun it X W rd a gd xr m => by
    cases a with
    | Subscript p q pos =>
      cases q with
      | Slice l u st sp =>
        cases st with
        | none =>
          simp only [mt, Bool.and_eq_true, decide_eq_true_eq] at m
          obtain ⟨⟨m1, m2⟩, m3⟩ := m
          exact e_slc (gd.K.trans T.hK) (hx.pe X W true p gd xr m1) (o_ok hy gd xr m2) (o_ok hz gd xr m3)
        | _ => simp [mt] at m
      | _ => simp [mt] at m
    | _ => simp [mt] at m
  refine ⟨pe false, fun X W a gd xr m tk => ?_, pi_of T pe⟩
  have qq := pe false X W false a gd xr m
  cases a with
  | Subscript p q pos =>
    cases q with
    | Slice l u st sp =>
      cases st with
      | none =>
        exact t_val qq fun _ => rfl
      | _ => simp [mt] at m
    | _ => simp [mt] at m
  | _ => simp [mt] at m
theorem ok_rev (T : Tf t c.G) (hx : EOk t h k c x) : EOk t h k c (.rev x) := by
  have pe : ∀ (it : Bool) (X : Cx) (W : WX) (rd : Bool) (a : Expr), Gd t h k X W → XR c X → mt h it X.env.scope X.N (.rev x : E J) a = true → PE X a (tE c W rd (.rev x)) := fun it X W rd a gd xr m => by
    cases a with
    | Subscript p q pos =>
      cases q with
      | Slice l u st sp =>
        cases l with
        | none =>
          cases u with
          | none =>
            cases st with
            | some st =>
              cases st with
              | UnaryOp uo up upos =>
                cases uo with
                | USub =>
                  cases up with
                  | Constant cv ck cp =>
                    cases cv with
                    | int ci =>
                      by_cases hci : ci = 1
                      · subst hci
                        simp only [mt] at m
                        exact e_rev (gd.K.trans T.hK) (hx.pe X W true p gd xr m)
                      · simp [mt, hci] at m
                    | _ => simp [mt] at m
                  | _ => simp [mt] at m
                | _ => simp [mt] at m
              | _ => simp [mt] at m
            | _ => simp [mt] at m
          | _ => simp [mt] at m
        | _ => simp [mt] at m
      | _ => simp [mt] at m
    | _ => simp [mt] at m
  refine ⟨pe false, fun X W a gd xr m tk => ?_, pi_of T pe⟩
  have qq := pe false X W false a gd xr m
  cases a with
  | Subscript p q pos =>
    cases q with
    | Slice l u st sp =>
      cases l with
      | none =>
        cases u with
        | none =>
          cases st with
          | some st =>
            cases st with
            | UnaryOp uo up upos =>
              cases uo with
              | USub =>
                cases up with
                | Constant cv ck cp =>
                  cases cv with
                  | int ci =>
                    exact t_val qq fun _ => rfl
                  | _ => simp [mt] at m
                | _ => simp [mt] at m
              | _ => simp [mt] at m
            | _ => simp [mt] at m
          | _ => simp [mt] at m
        | _ => simp [mt] at m
      | _ => simp [mt] at m
    | _ => simp [mt] at m
  | _ => simp [mt] at m
theorem ok_rpe (T : Tf t c.G) (hx : EOk t h k c x) (hy : EOk t h k c y) : EOk t h k c (.rpe x y) := by
  have pe : ∀ (it : Bool) (X : Cx) (W : WX) (rd : Bool) (a : Expr), Gd t h k X W → XR c X → mt h it X.env.scope X.N (.rpe x y : E J) a = true → PE X a (tE c W rd (.rpe x y)) := fun it X W rd a gd xr m => by
    cases a with
    | Compare p ops qs pos =>
      cases p with
      | Call fn as ks cp =>
        cases fn with
        | Name y1 yp =>
          cases as with
          | cons a1 as1 =>
            cases as1 with
            | nil =>
              cases ks with
              | nil =>
                cases ops with
                | cons o1 ops1 =>
                  cases ops1 with
                  | nil =>
                    cases qs with
                    | cons q1 qs1 =>
                      cases qs1 with
                      | nil =>
                        cases q1 with
                        | Call fn2 bs ks2 cp2 =>
                          cases fn2 with
                          | Name z1 zp =>
                            cases bs with
                            | cons b1 bs1 =>
                              cases bs1 with
                              | nil =>
                                cases ks2 with
                                | nil =>
                                  simp only [mt, Bool.and_eq_true, decide_eq_true_eq] at m
                                  obtain ⟨⟨⟨⟨⟨⟨m0, rfl⟩, rfl⟩, rfl⟩, m1⟩, m2⟩, m3⟩ := m
                                  exact rpe_ok T hx hy gd xr m0 m1 m2 m3
                                | _ => simp [mt] at m
                              | _ => simp [mt] at m
                            | _ => simp [mt] at m
                          | _ => simp [mt] at m
                        | _ => simp [mt] at m
                      | _ => simp [mt] at m
                    | _ => simp [mt] at m
                  | _ => simp [mt] at m
                | _ => simp [mt] at m
              | _ => simp [mt] at m
            | _ => simp [mt] at m
          | _ => simp [mt] at m
        | _ => simp [mt] at m
      | _ => simp [mt] at m
    | _ => simp [mt] at m
  refine ⟨pe false, fun X W a gd xr m tk => ?_, pi_of T pe⟩
  exact absurd tk (by simp [tstOk])
theorem ok_bi (T : Tf t c.G) (f : Str) (hs : EsOk t h k c es) : EOk t h k c (.bi f es) := by
  have pe : ∀ (it : Bool) (X : Cx) (W : WX) (rd : Bool) (a : Expr), Gd t h k X W → XR c X → mt h it X.env.scope X.N (.bi f es : E J) a = true → PE X a (tE c W rd (.bi f es)) := fun it X W rd a gd xr m => by
    cases a with
    | Call fn as ks pos =>
      cases fn with
      | Name y yp =>
        cases ks with
        | nil =>
          simp only [mt, Bool.and_eq_true, decide_eq_true_eq] at m
          obtain ⟨⟨⟨⟨⟨rfl, m1⟩, m2⟩, m3⟩, m4⟩, m5⟩ := m
          exact bi_ok T hs gd xr m1 m2 m3 m4 m5
        | _ => simp [mt] at m
      | _ => simp [mt] at m
    | _ => simp [mt] at m
  refine ⟨pe false, fun X W a gd xr m tk => ?_, pi_of T pe⟩
  have qq := pe false X W false a gd xr m
  cases a with
  | Call fn as ks pos =>
    cases fn with
    | Name y yp =>
      cases ks with
      | nil =>
        exact t_val qq fun _ => rfl
      | _ => simp [mt] at m
    | _ => simp [mt] at m
  | _ => simp [mt] at m
theorem ok_isi (T : Tf t c.G) (tn : Str) (hx : EOk t h k c x) : EOk t h k c (.isi x tn) := by
  have pe : ∀ (it : Bool) (X : Cx) (W : WX) (rd : Bool) (a : Expr), Gd t h k X W → XR c X → mt h it X.env.scope X.N (.isi x tn : E J) a = true → PE X a (tE c W rd (.isi x tn)) := fun it X W rd a gd xr m => by
    cases a with
    | Call fn as ks pos =>
      cases fn with
      | Name y yp =>
        cases ks with
        | nil =>
          cases as with
          | cons a1 as1 =>
            cases as1 with
            | cons a2 as2 =>
              cases as2 with
              | nil =>
                cases a2 with
                | Name z zp =>
                  simp only [mt, Bool.and_eq_true, decide_eq_true_eq] at m
                  obtain ⟨⟨⟨⟨⟨rfl, m1⟩, m2⟩, rfl⟩, m4⟩, m5⟩ := m
                  exact e_isi (gd.K.trans T.hK) T.hC m5 (glG m1) (by rw [gd.mg]; exact T.bi _ (by decide)) (glG m4) (by rw [gd.mg]; exact T.bi _ (ty_bi m5)) (mt_pl m2) (hx.pe X W true _ gd xr m2)
                | _ => simp [mt] at m
              | _ => simp [mt] at m
            | _ => simp [mt] at m
          | _ => simp [mt] at m
        | _ => simp [mt] at m
      | _ => simp [mt] at m
    | _ => simp [mt] at m
  refine ⟨pe false, fun X W a gd xr m tk => ?_, pi_of T pe⟩
  have qq := pe false X W false a gd xr m
  cases a with
  | Call fn as ks pos =>
    cases fn with
    | Name y yp =>
      cases ks with
      | nil =>
        cases as with
        | cons a1 as1 =>
          cases as1 with
          | cons a2 as2 =>
            cases as2 with
            | nil =>
              cases a2 with
              | Name z zp =>
                exact t_val qq fun _ => rfl
              | _ => simp [mt] at m
            | _ => simp [mt] at m
          | _ => simp [mt] at m
        | _ => simp [mt] at m
      | _ => simp [mt] at m
    | _ => simp [mt] at m
  | _ => simp [mt] at m
theorem ok_isi2 (T : Tf t c.G) (tn un : Str) (hx : EOk t h k c x) : EOk t h k c (.isi2 x tn un) := by
  have pe : ∀ (it : Bool) (X : Cx) (W : WX) (rd : Bool) (a : Expr), Gd t h k X W → XR c X → mt h it X.env.scope X.N (.isi2 x tn un : E J) a = true → PE X a (tE c W rd (.isi2 x tn un)) := fun it X W rd a gd xr m => by
    cases a with
    | Call fn as ks pos =>
      cases fn with
      | Name y yp =>
        cases ks with
        | nil =>
          cases as with
          | cons a1 as1 =>
            cases as1 with
            | cons a2 as2 =>
              cases as2 with
              | nil =>
                cases a2 with
                | Tuple ts kk tp =>
                  cases ts with
                  | cons t1 ts1 =>
                    cases t1 with
                    | Name z zp =>
                      cases ts1 with
                      | cons t2 ts2 =>
                        cases t2 with
                        | Name v vp =>
                          cases ts2 with
                          | nil =>
                            simp only [mt, Bool.and_eq_true, decide_eq_true_eq] at m
                            obtain ⟨⟨⟨⟨⟨⟨⟨⟨rfl, m1⟩, m2⟩, rfl⟩, m4⟩, rfl⟩, m6⟩, m7⟩, m8⟩ := m
                            exact e_isi2 (gd.K.trans T.hK) T.hC m7 m8 (glG m1) (by rw [gd.mg]; exact T.bi _ (by decide)) (glG m4) (by rw [gd.mg]; exact T.bi _ (ty_bi m7)) (glG m6) (by rw [gd.mg]; exact T.bi _ (ty_bi m8)) (mt_pl m2) (hx.pe X W true _ gd xr m2)
                          | _ => simp [mt] at m
                        | _ => simp [mt] at m
                      | _ => simp [mt] at m
                    | _ => simp [mt] at m
                  | _ => simp [mt] at m
                | _ => simp [mt] at m
              | _ => simp [mt] at m
            | _ => simp [mt] at m
          | _ => simp [mt] at m
        | _ => simp [mt] at m
      | _ => simp [mt] at m
    | _ => simp [mt] at m
  refine ⟨pe false, fun X W a gd xr m tk => ?_, pi_of T pe⟩
  have qq := pe false X W false a gd xr m
  cases a with
  | Call fn as ks pos =>
    cases fn with
    | Name y yp =>
      cases ks with
      | nil =>
        cases as with
        | cons a1 as1 =>
          cases as1 with
          | cons a2 as2 =>
            cases as2 with
            | nil =>
              cases a2 with
              | Tuple ts kk tp =>
                cases ts with
                | cons t1 ts1 =>
                  cases t1 with
                  | Name z zp =>
                    cases ts1 with
                    | cons t2 ts2 =>
                      cases t2 with
                      | Name v vp =>
                        cases ts2 with
                        | nil =>
                          exact t_val qq fun _ => rfl
                        | _ => simp [mt] at m
                      | _ => simp [mt] at m
                    | _ => simp [mt] at m
                  | _ => simp [mt] at m
                | _ => simp [mt] at m
              | _ => simp [mt] at m
            | _ => simp [mt] at m
          | _ => simp [mt] at m
        | _ => simp [mt] at m
      | _ => simp [mt] at m
    | _ => simp [mt] at m
  | _ => simp [mt] at m
theorem ok_call (T : Tf t c.G) (f : Sg) (g : Fn J) (hC : ClOk t h k c.T c.G f g) (hs : EsOk t h k c es) : EOk t h k c (.call f g es) := by
  have pe : ∀ (it : Bool) (X : Cx) (W : WX) (rd : Bool) (a : Expr), Gd t h k X W → XR c X → mt h it X.env.scope X.N (.call f g es : E J) a = true → PE X a (tE c W rd (.call f g es)) := fun it X W rd a gd xr m => by
    cases a with
    | Call fn as ks pos =>
      cases fn with
      | Name y yp =>
        cases ks with
        | nil =>
          simp only [mt, Bool.and_eq_true, decide_eq_true_eq] at m
          obtain ⟨⟨⟨⟨rfl, m1⟩, m2⟩, m3⟩, m4⟩ := m
          exact call_ok hC hs gd xr m1 m2 m3 m4
        | _ => simp [mt] at m
      | _ => simp [mt] at m
    | _ => simp [mt] at m
  refine ⟨pe false, fun X W a gd xr m tk => ?_, pi_of T pe⟩
  have qq := pe false X W false a gd xr m
  cases a with
  | Call fn as ks pos =>
    cases fn with
    | Name y yp =>
      cases ks with
      | nil =>
        exact t_val qq fun _ => rfl
      | _ => simp [mt] at m
    | _ => simp [mt] at m
  | _ => simp [mt] at m
theorem ok_callk (T : Tf t c.G) (f : Sg) (ks : List Str) (g : Fn J) (hC : ClOk t h k c.T c.G f g) (hs : EsOk t h k c es) (hk : EsOk t h k c kes) : EOk t h k c (.callk f ks g es kes) := by
  have pe : ∀ (it : Bool) (X : Cx) (W : WX) (rd : Bool) (a : Expr), Gd t h k X W → XR c X → mt h it X.env.scope X.N (.callk f ks g es kes : E J) a = true → PE X a (tE c W rd (.callk f ks g es kes)) := fun it X W rd a gd xr m => by
    cases a with
    | Call fn as kws pos =>
      cases fn with
      | Name y yp =>
        simp only [mt, Bool.and_eq_true, decide_eq_true_eq] at m
        obtain ⟨⟨⟨⟨⟨⟨m0, rfl⟩, m1⟩, m2⟩, m3⟩, m4⟩, m5⟩ := m
        exact callk_ok hC hs hk gd xr m0 m1 m2 m3 m4 m5
      | _ => simp [mt] at m
    | _ => simp [mt] at m
  refine ⟨pe false, fun X W a gd xr m tk => ?_, pi_of T pe⟩
  have qq := pe false X W false a gd xr m
  cases a with
  | Call fn as kws pos =>
    cases fn with
    | Name y yp =>
      exact t_val qq fun _ => rfl
    | _ => simp [mt] at m
  | _ => simp [mt] at m
theorem ok_lc (T : Tf t c.G) (tt : Tg) (own : List (Str × Nat)) (hx : EOk t h k c x) (hy : EOk t h k c y) (hs : EsOk t h k c es) (hxo : h = false → c.xo = none) : EOk t h k c (.lc x tt y es own) := by
  have pe : ∀ (it : Bool) (X : Cx) (W : WX) (rd : Bool) (a : Expr), Gd t h k X W → XR c X → mt h it X.env.scope X.N (.lc x tt y es own : E J) a = true → PE X a (tE c W rd (.lc x tt y es own)) := fun it X W rd a gd xr m => by
    cases a with
    | ListComp p gs sc pos =>
      cases gs with
      | cons g1 gs1 =>
        cases gs1 with
        | nil =>
          cases g1 with
          | mk tg ix ifs az =>
            simp only [mt, Bool.and_eq_true, decide_eq_true_eq] at m
            obtain ⟨⟨⟨⟨⟨⟨⟨⟨m0, m1⟩, m2⟩, m3⟩, m4⟩, m5⟩, m6⟩, m7⟩, m8⟩ := m
            exact lc_ok T hx hy hs hxo gd xr m0 m1 m2 m3 m4 m5 m6 m7 m8
        | _ => simp [mt] at m
      | _ => simp [mt] at m
    | _ => simp [mt] at m
  refine ⟨pe false, fun X W a gd xr m tk => ?_, pi_of T pe⟩
  have qq := pe false X W false a gd xr m
  cases a with
  | ListComp p gs sc pos =>
    cases gs with
    | cons g1 gs1 =>
      cases gs1 with
      | nil =>
        cases g1 with
        | mk tg ix ifs az =>
          exact t_val qq fun _ => rfl
      | _ => simp [mt] at m
    | _ => simp [mt] at m
  | _ => simp [mt] at m
end
end DL

set_option Elab.async false
set_option linter.all false
set_option maxRecDepth 100000
set_option maxHeartbeats 8000000
/-! The data layer, part m: all expressions. -/
namespace DL
open PySem PySem.Spec PyProof.Rows L2
variable {J : Type}
section
variable {t : Tx} {h : Bool} {k : Nat} {c : Cf J} {x y z : E J} {es kes : Es J}
theorem ok_rng1 (T : Tf t c.G) (hx : EOk t h k c x) : EOk t h k c (.rng1 x) := by
  have no : ∀ (X : Cx) (a : Expr), mt h false X.env.scope X.N (.rng1 x : E J) a = true → False := fun X a m => by
    cases a with
    | Call fn as ks p =>
      cases fn with
      | Name y yp =>
        cases as with
        | nil => simp [mt] at m
        | cons a1 r =>
          cases r with
          | nil =>
            cases ks with
            | nil => simp [mt] at m
            | cons _ _ => simp [mt] at m
          | cons _ _ => simp [mt] at m
      | _ => simp [mt] at m
    | _ => simp [mt] at m
  refine ⟨fun X W rd a gd xr m => (no X a m).elim, fun X W a gd xr m _ => (no X a m).elim, fun X W rd tg a h0 gd xr m => ?_⟩
  cases a with
  | Call fn as ks p =>
    cases fn with
    | Name y yp =>
      cases as with
      | nil => simp [mt] at m
      | cons a1 r =>
        cases r with
        | nil =>
          cases ks with
          | nil =>
            simp only [mt, Bool.and_eq_true, decide_eq_true_eq] at m
            obtain ⟨⟨⟨_, rfl⟩, m1⟩, m2⟩ := m
            exact i_rng1 (glG m1) (by rw [gd.mg]; exact T.bi _ (by decide)) (hx.pe X W false _ gd xr m2) (mt_pl m2)
          | cons _ _ => simp [mt] at m
        | cons _ _ => simp [mt] at m
    | _ => simp [mt] at m
  | _ => simp [mt] at m
theorem ok_rng2 (T : Tf t c.G) (hx : EOk t h k c x) (hy : EOk t h k c y) : EOk t h k c (.rng2 x y) := by
  have no : ∀ (X : Cx) (a : Expr), mt h false X.env.scope X.N (.rng2 x y : E J) a = true → False := fun X a m => by
    cases a with
    | Call fn as ks p =>
      cases fn with
      | Name y yp =>
        cases as with
        | nil => simp [mt] at m
        | cons a1 r =>
          cases r with
          | nil => simp [mt] at m
          | cons a2 r =>
            cases r with
            | nil =>
              cases ks with
              | nil => simp [mt] at m
              | cons _ _ => simp [mt] at m
            | cons _ _ => simp [mt] at m
      | _ => simp [mt] at m
    | _ => simp [mt] at m
  refine ⟨fun X W rd a gd xr m => (no X a m).elim, fun X W a gd xr m _ => (no X a m).elim, fun X W rd tg a h0 gd xr m => ?_⟩
  cases a with
  | Call fn as ks p =>
    cases fn with
    | Name y yp =>
      cases as with
      | nil => simp [mt] at m
      | cons a1 r =>
        cases r with
        | nil => simp [mt] at m
        | cons a2 r =>
          cases r with
          | nil =>
            cases ks with
            | nil =>
              simp only [mt, Bool.and_eq_true, decide_eq_true_eq] at m
              obtain ⟨⟨⟨⟨_, rfl⟩, m1⟩, m2⟩, m3⟩ := m
              exact i_rng2 (glG m1) (by rw [gd.mg]; exact T.bi _ (by decide)) (hx.pe X W false _ gd xr m2) (mt_pl m2) (hy.pe X W false _ gd xr m3) (mt_pl m3)
            | cons _ _ => simp [mt] at m
          | cons _ _ => simp [mt] at m
    | _ => simp [mt] at m
  | _ => simp [mt] at m
theorem ok_skip : EOk t h k c (.skip : E J) :=
  ⟨fun X W rd a gd xr m => absurd m (by cases a <;> simp [mt]), fun X W a gd xr m => absurd m (by cases a <;> simp [mt]), fun X W rd tg a _ gd xr m => absurd m (by cases a <;> simp [mt])⟩
theorem es_nil : EsOk t h k c (.nil : Es J) where
  pa := fun X W rd as gd xr m => by
    cases as with
    | nil => exact a_nil
    | cons _ _ => simp [mts] at m
  pk := fun X W rd as gd xr m => by
    cases as with
    | nil => exact k_nil
    | cons _ _ => simp [mtk] at m
  pb := fun X W o as pos gd xr m hl => absurd hl (by simp [Es.len])
  pw := fun X W o as pos gd xr m _ hl => absurd hl (by simp [Es.len])
  ps := fun X W as gd xr m _ => by
    cases as with
    | nil => exact ts_nil
    | cons _ _ => simp [mts] at m
theorem es_cons (hx : EOk t h k c x) (hs : EsOk t h k c es) : EsOk t h k c (.cons x es) where
  pa := fun X W rd as gd xr m => by
    cases as with
    | nil => simp [mts] at m
    | cons a as =>
      simp only [mts, Bool.and_eq_true] at m
      exact a_cons (hx.pe X W rd a gd xr m.1) (hs.pa X W rd as gd xr m.2) (mt_pl m.1)
  pk := fun X W rd as gd xr m => by
    cases as with
    | nil => simp [mtk] at m
    | cons a as =>
      obtain ⟨nm, v, p⟩ := a
      simp only [mtk, Bool.and_eq_true] at m
      exact k_cons (hx.pe X W rd v gd xr m.1) (hs.pk X W rd as gd xr m.2)
  pb := fun X W o as pos gd xr m hl => by
    cases as with
    | nil => simp [mts] at m
    | cons a as =>
      simp only [mts, Bool.and_eq_true] at m
      cases es with
      | nil =>
        cases as with
        | nil => exact eb_one (hx.pe X W false a gd xr m.1)
        | cons _ _ => simp [mts] at m
      | cons y r =>
        cases as with
        | nil => simp [mts] at m
        | cons b bs => exact eb_more (hx.pe X W false a gd xr m.1) (hs.pb X W o (b :: bs) pos gd xr m.2 (by simp [Es.len]))
  pw := fun X W o as pos gd xr m ta hl => by
    cases as with
    | nil => simp [mts] at m
    | cons a as =>
      simp only [mts, Bool.and_eq_true] at m
      simp only [tstsA, Bool.and_eq_true] at ta
      cases es with
      | nil =>
        cases as with
        | nil => exact tb_one (hx.pt X W a gd xr m.1 ta.1)
        | cons _ _ => simp [mts] at m
      | cons y r =>
        cases as with
        | nil => simp [mts] at m
        | cons b bs => exact tb_more (hx.pt X W a gd xr m.1 ta.1) (hs.pw X W o (b :: bs) pos gd xr m.2 ta.2 (by simp [Es.len]))
  ps := fun X W as gd xr m ta => by
    cases as with
    | nil => simp [mts] at m
    | cons a as =>
      simp only [mts, Bool.and_eq_true] at m
      cases es with
      | nil =>
        cases as with
        | nil => exact ts_one (hx.pt X W a gd xr m.1 ta)
        | cons _ _ => simp [mts] at m
      | cons y r => simp [tstsOk] at ta
end
section
variable {t : Tx} {h : Bool} {k : Nat} {c : Cf J} (T : Tf t c.G) (hxo : h = false → c.xo = none)
include T hxo
mutual
theorem e_all : ∀ e : E J, eOk (ClOk t h k c.T c.G) (GetOk c.T c.G) e → EOk t h k c e
  | .var i x, _ => ok_var T i x
  | .non, _ => ok_non T
  | .bl b, _ => ok_bl T b
  | .int i, _ => ok_int T i
  | .str x, _ => ok_str T x
  | .bin o a b, q => ok_bin T o (e_all a (by simp only [eOk] at q; exact q.1)) (e_all b (by simp only [eOk] at q; exact q.2))
  | .neg a, q => ok_neg T (e_all a (by simp only [eOk] at q; exact q))
  | .not a, q => ok_not T (e_all a (by simp only [eOk] at q; exact q))
  | .cmp o a b, q => ok_cmp T o (e_all a (by simp only [eOk] at q; exact q.1)) (e_all b (by simp only [eOk] at q; exact q.2))
  | .chn o p a b d, q => ok_chn T o p (e_all a (by simp only [eOk] at q; exact q.1)) (e_all b (by simp only [eOk] at q; exact q.2.1)) (e_all d (by simp only [eOk] at q; exact q.2.2))
  | .bop o es, q => ok_bop T o (es_all es (by simp only [eOk] at q; exact q))
  | .ife a b d, q => ok_ife T (e_all a (by simp only [eOk] at q; exact q.1)) (e_all b (by simp only [eOk] at q; exact q.2.1)) (e_all d (by simp only [eOk] at q; exact q.2.2))
  | .tup es, q => ok_tup T (es_all es (by simp only [eOk] at q; exact q))
  | .lst es, q => ok_lst T (es_all es (by simp only [eOk] at q; exact q))
  | .sub a b, q => ok_sub T (e_all a (by simp only [eOk] at q; exact q.1)) (e_all b (by simp only [eOk] at q; exact q.2))
  | .slc a b d, q => ok_slc T (e_all a (by simp only [eOk] at q; exact q.1)) (e_all b (by simp only [eOk] at q; exact q.2.1)) (e_all d (by simp only [eOk] at q; exact q.2.2))
  | .skip, _ => ok_skip
  | .rev a, q => ok_rev T (e_all a (by simp only [eOk] at q; exact q))
  | .call f g es, q => ok_call T f g (by simp only [eOk] at q; exact q.1) (es_all es (by simp only [eOk] at q; exact q.2))
  | .callk f ks g es kes, q => ok_callk T f ks g (by simp only [eOk] at q; exact q.1) (es_all es (by simp only [eOk] at q; exact q.2.1)) (es_all kes (by simp only [eOk] at q; exact q.2.2))
  | .bi f es, q => ok_bi T f (es_all es (by simp only [eOk] at q; exact q))
  | .isi a u, q => ok_isi T u (e_all a (by simp only [eOk] at q; exact q))
  | .isi2 a u v, q => ok_isi2 T u v (e_all a (by simp only [eOk] at q; exact q))
  | .fld a f, q => ok_fld T f (e_all a (by simp only [eOk] at q; exact q))
  | .lc el tt it cs own, q => ok_lc T tt own (e_all el (by simp only [eOk] at q; exact q.1)) (e_all it (by simp only [eOk] at q; exact q.2.1)) (es_all cs (by simp only [eOk] at q; exact q.2.2)) hxo
  | .rng1 a, q => ok_rng1 T (e_all a (by simp only [eOk] at q; exact q))
  | .rng2 a b, q => ok_rng2 T (e_all a (by simp only [eOk] at q; exact q.1)) (e_all b (by simp only [eOk] at q; exact q.2))
  | .bix g a b, q => ok_bix T g (by simp only [eOk] at q; exact q.1) (e_all a (by simp only [eOk] at q; exact q.2.1)) (e_all b (by simp only [eOk] at q; exact q.2.2))
  | .xf i x f, _ => ok_xf T i x f
  | .rpe a b, q => ok_rpe T (e_all a (by simp only [eOk] at q; exact q.1)) (e_all b (by simp only [eOk] at q; exact q.2))
theorem es_all : ∀ es : Es J, esOk (ClOk t h k c.T c.G) (GetOk c.T c.G) es → EsOk t h k c es
  | .nil, _ => es_nil
  | .cons e es, q => es_cons (e_all e (by simp only [esOk] at q; exact q.1)) (es_all es (by simp only [esOk] at q; exact q.2))
end
end
end DL

set_option Elab.async false
set_option linter.all false
set_option maxRecDepth 100000
set_option maxHeartbeats 8000000
/-! The data layer, part n: statements. -/
namespace DL
open PySem PySem.Spec PyProof.Rows L2
variable {J : Type}
theorem Le.trans {O O1 O2 : Addr → Prop} {w w1 w2 : Ws} {H H1 H2 : Hp} (a : Le O w H O1 w1 H1) (b : Le O1 w1 H1 O2 w2 H2) : Le O w H O2 w2 H2 :=
  ⟨fun i x h => b.hb i x (a.hb i x h), fun c o h n => by obtain ⟨h1, n1⟩ := a.st c o h n; exact b.st c o h1 n1⟩
theorem Le.refl {O : Addr → Prop} {w : Ws} {H : Hp} : Le O w H O w H := ⟨fun _ _ h => h, fun _ _ h n => ⟨h, n⟩⟩
/-- what is wanted of a statement's run -/
def PostS (c : Cf J) (W : WX) (D : Ends) (O : Addr → Prop) (H : Hp) (w : Ws) : Ot J → Prop
  | .nx ρ s => ∀ σ' H' w' O', EI c ρ σ' H' w' s O' → Le O w H O' w' H' → D.nx σ' H'
  | .ret x s => ∀ v H' w', Go c.T c.O0 c.H0 c.w0 H' w' s → Rep c.G c.O0 w' H' x.1 v → Own c.T c.G c.O0 x c.H0 H' w' s v → D.rt v H'
  | .brk ρ s => ∀ σ' H' w' O', EI c ρ σ' H' w' s O' → Le O w H O' w' H' → D.bk σ' H'
  | .cnt ρ s => ∀ σ' H' w' O', EI c ρ σ' H' w' s O' → Le O w H O' w' H' → D.ct σ' H'
  | .exc cn fs ρ s => ∀ cls dd σ' H' w' O', EI c ρ σ' H' w' s O' → Le O w H O' w' H' → ExcR c.G O' w' H' cn fs cls dd → W cls dd σ' H'
  | .stk => False
theorem PostS.le {c : Cf J} {W : WX} {D : Ends} {O O1 : Addr → Prop} {H H1 : Hp} {w w1 : Ws} {r : Ot J} (h : PostS c W D O H w r) (l : Le O w H O1 w1 H1) : PostS c W D O1 H1 w1 r := by
  cases r with
  | nx ρ s => exact fun σ' H' w' O' I l' => h σ' H' w' O' I (l.trans l')
  | ret x s => exact h
  | brk ρ s => exact fun σ' H' w' O' I l' => h σ' H' w' O' I (l.trans l')
  | cnt ρ s => exact fun σ' H' w' O' I l' => h σ' H' w' O' I (l.trans l')
  | exc cn fs ρ s => exact fun cls dd σ' H' w' O' I l' e => h cls dd σ' H' w' O' I (l.trans l') e
  | stk => exact h
def tS (c : Cf J) (W : WX) (st : Sm J) : TS := fun D σ H => ∃ ρ w s O, EI c ρ σ H w s O ∧ PostS c W D O H w (sv c.G.fl st ρ s)
def tSs (c : Cf J) (W : WX) (st : Sms J) : TS := fun D σ H => ∃ ρ w s O, EI c ρ σ H w s O ∧ PostS c W D O H w (svs c.G.fl st ρ s)
section
variable {X : Cx} {c : Cf J} {W : WX} {a b : Stmt} {t t' : TS}
theorem PS.mono (h : PS X a t) (m : ∀ D σ H, t' D σ H → t D σ H) : PS X a t' := ⟨fun pins s σ H D I q => h.run pins s σ H D I (m D σ H q)⟩
theorem PSs.mono {as : List Stmt} (h : PSs X as t) (m : ∀ D σ H, t' D σ H → t D σ H) : PSs X as t' := ⟨fun pins s σ H D I q => h.run pins s σ H D I (m D σ H q)⟩
/-- an expression's value, what is behind it -/
theorem S_then {Z : Ends} {ρ : Env} {σ : St} {H : Hp} {w : Ws} {s : List J} {O : Addr → Prop} {rd : Bool} {r : R J (D × Bool)} {k : D × Bool → List J → Ot J} {Q : VK} (I : EI c ρ σ H w s O) (h : PostS c W Z O H w (liftE r ρ k))
    (kk : ∀ x s1 v H1 w1, EI c ρ σ H1 w1 s1 O → Go c.T O H w H1 w1 s1 → Rp c.G O w1 H1 rd x.1 v → Own c.T c.G O x H H1 w1 s1 v → PostS c W Z O H1 w1 (k x s1) → Q v H1) : Post c.T c.G W σ O H w rd r Q := by
  cases r with
  | ok x s1 => exact fun v H1 w1 g rp ow => kk x s1 v H1 w1 (I.step g) g rp ow (PostS.le (show PostS c W Z O H w (k x s1) from h) g.le)
  | exc cn fs s1 => exact fun cls dd H1 w1 g e => (show ∀ cls dd σ' H' w' O', EI c ρ σ' H' w' s1 O' → Le O w H O' w' H' → ExcR c.G O' w' H' cn fs cls dd → W cls dd σ' H' from h) cls dd σ H1 w1 O (I.step g) g.le e
  | stk => exact h
theorem S_thenL {Z : Ends} {ρ : Env} {σ : St} {H : Hp} {w : Ws} {s : List J} {O : Addr → Prop} {rd : Bool} {r : R J (List DL.D)} {k : List DL.D → List J → Ot J} {Q : List V → Hp → Prop} (I : EI c ρ σ H w s O) (h : PostS c W Z O H w (liftE r ρ k))
    (kk : ∀ x s1 v H1 w1, EI c ρ σ H1 w1 s1 O → Go c.T O H w H1 w1 s1 → RpL c.G O w1 H1 rd x v → PostS c W Z O H1 w1 (k x s1) → Q v H1) : PostL c.T c.G W σ O H w rd r Q := by
  cases r with
  | ok x s1 => exact fun v H1 w1 g rp => kk x s1 v H1 w1 (I.step g) g rp (PostS.le (show PostS c W Z O H w (k x s1) from h) g.le)
  | exc cn fs s1 => exact fun cls dd H1 w1 g e => (show ∀ cls dd σ' H' w' O', EI c ρ σ' H' w' s1 O' → Le O w H O' w' H' → ExcR c.G O' w' H' cn fs cls dd → W cls dd σ' H' from h) cls dd σ H1 w1 O (I.step g) g.le e
  | stk => exact h
theorem S_thenT {α : Type} {Z : Ends} {ρ : Env} {σ : St} {H : Hp} {w : Ws} {s : List J} {O : Addr → Prop} {r : R J α} {k : α → List J → Ot J} {Q : α → Hp → Prop} (I : EI c ρ σ H w s O) (h : PostS c W Z O H w (liftE r ρ k))
    (kk : ∀ x s1 H1 w1, EI c ρ σ H1 w1 s1 O → Go c.T O H w H1 w1 s1 → PostS c W Z O H1 w1 (k x s1) → Q x H1) : PostT c.T c.G W σ O H w r Q := by
  cases r with
  | ok x s1 => exact fun H1 w1 g => kk x s1 H1 w1 (I.step g) g (PostS.le (show PostS c W Z O H w (k x s1) from h) g.le)
  | exc cn fs s1 => exact fun cls dd H1 w1 g e => (show ∀ cls dd σ' H' w' O', EI c ρ σ' H' w' s1 O' → Le O w H O' w' H' → ExcR c.G O' w' H' cn fs cls dd → W cls dd σ' H' from h) cls dd σ H1 w1 O (I.step g) g.le e
  | stk => exact h

/-! ### one behind another -/
theorem ss_nil : PSs X [] (tSs c W (.nil : Sms J)) := PSs.mono pss_nil fun D σ H hq => by
  obtain ⟨ρ, w, s, O, I, p⟩ := hq
  simp only [svs] at p
  exact p σ H w O I Le.refl
theorem ss_cons {x : Sm J} {r : Sms J} {as : List Stmt} (h1 : PS X a (tS c W x)) (h2 : PSs X as (tSs c W r)) : PSs X (a :: as) (tSs c W (.cons x r)) := by
  refine PSs.mono (pss_cons h1 h2) fun D σ H hq => ?_
  obtain ⟨ρ, w, s, O, I, p⟩ := hq
  simp only [svs] at p
  refine ⟨ρ, w, s, O, I, ?_⟩
  revert p
  cases sv c.G.fl x ρ s with
  | nx ρ' s' => exact fun p σ' H' w' O' I' l => ⟨ρ', w', s', O', I', PostS.le p l⟩
  | ret y s' => exact fun p => p
  | brk ρ' s' => exact fun p => p
  | cnt ρ' s' => exact fun p => p
  | exc cn fs ρ' s' => exact fun p => p
  | stk => exact fun p => p
theorem s_pas {pos : Pos} : PS X (.Pass pos) (tS c W (.pas : Sm J)) := PS.mono ps_pass fun D σ H hq => by
  obtain ⟨ρ, w, s, O, I, p⟩ := hq
  simp only [sv] at p
  exact p σ H w O I Le.refl
theorem s_doc {z : Str} {j : Nat} {p1 p2 : Pos} : PS X (.Expr (.Constant (.str z) j p1) p2) (tS c W (.pas : Sm J)) := PS.mono ps_doc fun D σ H hq => by
  obtain ⟨ρ, w, s, O, I, p⟩ := hq
  simp only [sv] at p
  exact p σ H w O I Le.refl
theorem s_brk {pos : Pos} : PS X (.Break pos) (tS c W (.brk : Sm J)) := PS.mono ps_break fun D σ H hq => by
  obtain ⟨ρ, w, s, O, I, p⟩ := hq
  simp only [sv] at p
  exact p σ H w O I Le.refl
theorem s_cnt {pos : Pos} : PS X (.Continue pos) (tS c W (.cnt : Sm J)) := PS.mono ps_continue fun D σ H hq => by
  obtain ⟨ρ, w, s, O, I, p⟩ := hq
  simp only [sv] at p
  exact p σ H w O I Le.refl
theorem s_exp {e : Expr} {x : E J} {pos : Pos} (h : PE X e (tE c W false x)) (hp : plE e = true) (hn : notLc e = true) : PS X (.Expr e pos) (tS c W (.exp x)) := by
  refine PS.mono (ps_expr h (pl_swaps hp hn _ _)) fun D σ H hq => ?_
  obtain ⟨ρ, w, s, O, I, p⟩ := hq
  simp only [sv] at p
  exact ⟨ρ, w, s, O, I, S_then I p fun y s1 v H1 w1 I1 g1 r1 _ p1 => p1 σ H1 w1 O I1 Le.refl⟩
theorem s_ret {e : Expr} {x : E J} {pos : Pos} (h : PE X e (tE c W false x)) : PS X (.Return (some e) pos) (tS c W (.ret x)) := by
  refine PS.mono (ps_ret h) fun D σ H hq => ?_
  obtain ⟨ρ, w, s, O, I, p⟩ := hq
  simp only [sv] at p
  refine ⟨ρ, w, s, O, I, S_then I p fun y s1 v H1 w1 I1 g1 r1 ow p1 => ?_⟩
  have lb : Le O w1 H1 c.O0 w1 H1 := ⟨fun _ _ h => h, fun b o h n => ⟨h, fun z => n (z.imp (I.o0 b) id)⟩⟩
  refine p1 v H1 w1 (I1.go.mono I.o0) (r1.rep.le lb) fun hu => ?_
  obtain ⟨ad, vs, ds, e0, e1, h1, h2, h3, h4, h5⟩ := ow hu
  refine ⟨ad, vs, ds, e0, e1, ?_, h2, h3, h4.mono fun b h => h.imp (I.o0 b) id, h5.le ⟨fun _ _ h => h, fun b o h n => ⟨h, fun z => n (z.imp (fun y => y.imp (I.o0 b) id) id)⟩⟩⟩
  cases q : c.H0 ad with
  | none => rfl
  | some u => exact absurd h1 (I.go.al ad (by rw [q]; exact fun z => nomatch z))
theorem s_ite {e : Expr} {x : E J} {as bs : List Stmt} {p q : Sms J} {pos : Pos} (hc : PT X e (tT c W x)) (ha : PSs X as (tSs c W p)) (hb : PSs X bs (tSs c W q)) : PS X (.If e as bs pos) (tS c W (.ite x p q)) := by
  refine PS.mono (ps_if hc ha hb) fun D σ H hq => ?_
  obtain ⟨ρ, w, s, O, I, p⟩ := hq
  simp only [sv] at p
  refine ⟨ρ, w, s, O, I, S_thenT I p fun k s1 H1 w1 I1 g1 p1 => ?_⟩
  cases k with
  | true => exact iteT ⟨ρ, w1, s1, O, I1, p1⟩
  | false => exact iteF ⟨ρ, w1, s1, O, I1, p1⟩

/-! ### assignments -/
theorem s_asg {e tg : Expr} {x : E J} {t : Tg} {pos : Pos} (hK : X.K = c.G.K) (h : PE X e (tE c W false x)) (hg : PG X tg (gTg X.K t)) (hs : swapsWithSole [tg] e pos.line X.env = pure false) (hw : swappedStores [tg] e X.env = pure none) (h1 : (assignEach [tg] X.env).map (·.2) = [assign tg X.env]) :
    PS X (.Assign [tg] e pos) (tS c W (.asg t x)) := by
  refine PS.mono (ps_asg h hg hs hw h1) fun D σ H hq => ?_
  obtain ⟨ρ, w, s, O, I, p⟩ := hq
  simp only [sv] at p
  refine ⟨ρ, w, s, O, I, S_then I p fun y s1 v H1 w1 I1 g1 r1 _ p1 => ?_⟩
  cases e1 : setTg t y.1 ρ with
  | none => simp only [e1] at p1; exact p1.elim
  | some ρ1 =>
    simp only [e1] at p1
    exact gTg_ok hK e1 I1 r1.rep fun σ' I' _ => p1 σ' H1 w1 O I' Le.refl
theorem s_par {a b : Expr} {i j : Nat} {x y : Str} {es : Es J} {px py pt pos : Pos} {kt k2 : Nat} {pt2 : Pos} (hc : X.calm = true) (hN : X.N.Nodup) (hi : X.N[i]? = some x) (hj : X.N[j]? = some y) (hij : i ≠ j)
    (hx : X.env.scope.names.lookup x = some .local) (hy : X.env.scope.names.lookup y = some .local) (ha : PA X [a, b] (tA c W false es))
    (hw : swappedStores [.Tuple [.Name x px, .Name y py] kt pt] (.Tuple [a, b] k2 pt2) X.env = pure (some [x, y])) : PS X (.Assign [.Tuple [.Name x px, .Name y py] kt pt] (.Tuple [a, b] k2 pt2) pos) (tS c W (.par i x j y es)) := by
  refine PS.mono (ps_par hc hN hi hj hij hx hy ha hw) fun D σ H hq => ?_
  obtain ⟨ρ, w, s, O, I, p⟩ := hq
  simp only [sv] at p
  refine ⟨ρ, w, s, O, I, S_thenL I p fun ys s1 vs H1 w1 I1 g1 r1 p1 => ?_⟩
  match ys, r1, p1 with
  | [], _, p1 => exact p1.elim
  | [_], _, p1 => exact p1.elim
  | _ :: _ :: _ :: _, _, p1 => exact p1.elim
  | [d, e], r1, p1 =>
    obtain ⟨u, v, rfl, h1, h2⟩ := r1.two
    exact ⟨u, v, rfl, p1 _ H1 w1 O ((I1.set i h1.rep).set j h2.rep) Le.refl⟩

/-! ### loops -/
theorem s_loop {e tg : Expr} {x : E J} {t : Tg} {bs : List Stmt} {q : Sms J} {pos : Pos} (hK : X.K = c.G.K) (hg : PG X tg (gTg X.K t)) (hb : PSs X bs (tSs c W q))
    (hf : PS X (.For tg e bs [] pos) (tFor (tI c W false x) (gTg X.K t) (tSs c W q))) : PS X (.For tg e bs [] pos) (tS c W (.loop t x q)) := by
  refine PS.mono hf fun D σ H hq => ?_
  obtain ⟨ρ, w, s, O, I, p⟩ := hq
  simp only [sv] at p
  refine ⟨ρ, w, s, O, I, ?_⟩
  cases r : ev c.G.fl false x ρ s with
  | stk => rw [r] at p; exact p.elim
  | exc cn fs s1 => rw [r] at p; exact fun cls dd H1 w1 g e => (show ∀ cls dd σ' H' w' O', EI c ρ σ' H' w' s1 O' → Le O w H O' w' H' → ExcR c.G O' w' H' cn fs cls dd → W cls dd σ' H' from p) cls dd σ H1 w1 O (I.step g) g.le e
  | ok y s1 =>
    rw [r] at p
    cases hd : itemsOf y.1 with
    | none => simp only [liftE, hd] at p; exact p.elim
    | some ds =>
      simp only [liftE, hd] at p
      refine ⟨ds, hd, fun H1 w1 vs Ji P g1 rs hok hP _ hle => ?_⟩
      let Wf : Nat → Nat → St → Hp → Prop := fun i m σ2 H2 => m = vs.length - i ∧ i ≤ vs.length ∧ P H2 ∧ ∃ ρ2 w2 s2 O2, EI c ρ2 σ2 H2 w2 s2 O2 ∧ Le O w1 H1 O2 w2 H2 ∧ PostS c W D O2 H2 w2 (loopRun t (fun ρ s => svs c.G.fl q ρ s) (ds.drop i) ρ2 s2)
      refine ⟨Wf, ⟨vs.length, by simp, Nat.zero_le _, hP, ρ, w1, s1, O, I.step g1, Le.refl, PostS.le p g1.le⟩, ?_⟩
      rintro i m σ2 H2 ⟨rfl, hi, hP2, ρ2, w2, s2, O2, I2, l2, q2⟩
      obtain ⟨k1, k2⟩ := hok H2 hP2 i
      by_cases hlt : i < vs.length
      · obtain ⟨j1, j2⟩ := k1 hlt
        have hll : i < ds.length := by rw [rs.length]; exact hlt
        rw [List.drop_eq_getElem_cons hll] at q2
        let N : St → Hp → Prop := fun σ3 H3 => Wf (i + 1) (vs.length - (i + 1)) σ3 H3
        refine .inr ⟨j1, N, fun σ' H' h' => ⟨vs.length - (i + 1), by omega, h'⟩, fun xv H3 y => ?_⟩
        obtain ⟨y1, y2⟩ := j2 xv H3 y
        subst y1
        obtain ⟨v, hv, rv⟩ := (rs.le l2).get (List.getElem?_eq_getElem hll)
        rw [hv] at y2
        cases y2
        unfold loopRun at q2
        cases e1 : setTg t ds[i] ρ2 with
        | none => simp only [e1] at q2; exact q2.elim
        | some ρ3 =>
          simp only [e1] at q2
          refine gTg_ok hK e1 I2 rv fun σ3 I3 _ => ⟨ρ3, w2, s2, O2, I3, ?_⟩
          revert q2
          cases svs c.G.fl q ρ3 s2 with
          | nx ρ4 s4 => exact fun q2 σ4 H4 w4 O4 I4 l4 => ⟨rfl, hlt, hle rfl _ _ _ (l2.trans l4), ρ4, w4, s4, O4, I4, l2.trans l4, PostS.le q2 l4⟩
          | cnt ρ4 s4 => exact fun q2 σ4 H4 w4 O4 I4 l4 => ⟨rfl, hlt, hle rfl _ _ _ (l2.trans l4), ρ4, w4, s4, O4, I4, l2.trans l4, PostS.le q2 l4⟩
          | brk ρ4 s4 => exact fun q2 => q2
          | ret z s4 => exact fun q2 => q2
          | exc cn fs ρ4 s4 => exact fun q2 => q2
          | stk => exact fun q2 => q2
      · have e : i = vs.length := by omega
        subst e
        refine .inl ⟨k2 (Nat.le_refl _), ?_⟩
        rw [← rs.length, List.drop_length] at q2
        exact q2 σ2 H2 w2 O2 I2 Le.refl
theorem s_whl {e : Expr} {x : E J} {fuel : Env → Nat} {bs : List Stmt} {q : Sms J} {pos : Pos} (hp : PassesOwn (model X.prog X.w) X.A X.env X.xe) (hc : PT X e (tT c W x)) (hb : PSs X bs (tSs c W q)) : PS X (.While e bs [] pos) (tS c W (.whl fuel x q)) := by
  refine PS.mono (ps_while hp hc hb) fun D σ H hq => ?_
  obtain ⟨ρ, w, s, O, I, p⟩ := hq
  simp only [sv] at p
  let Wf : Nat → St → Hp → Prop := fun m σ2 H2 => ∃ ρ2 w2 s2 O2, EI c ρ2 σ2 H2 w2 s2 O2 ∧ PostS c W D O2 H2 w2 (whlRun (fun ρ s => boolOf (ev c.G.fl false x ρ s)) (fun ρ s => svs c.G.fl q ρ s) m ρ2 s2)
  refine ⟨Wf, ⟨fuel ρ, ρ, w, s, O, I, p⟩, ?_⟩
  rintro m σ2 H2 ⟨ρ2, w2, s2, O2, I2, q2⟩
  cases m with
  | zero =>
    unfold whlRun at q2
    refine ⟨ρ2, w2, s2, O2, I2, S_thenT I2 q2 fun k s3 H3 w3 I3 g3 p3 => ?_⟩
    cases k with
    | true => exact p3.elim
    | false => exact iteF (p3 σ2 H3 w3 O2 I3 Le.refl)
  | succ n =>
    unfold whlRun at q2
    refine ⟨ρ2, w2, s2, O2, I2, S_thenT I2 q2 fun k s3 H3 w3 I3 g3 p3 => ?_⟩
    cases k with
    | true =>
      refine iteT ⟨Wf n, fun σ' H' h' => ⟨n, Nat.lt_succ_self n, h'⟩, ρ2, w3, s3, O2, I3, ?_⟩
      simp only [if_true] at p3
      revert p3
      cases svs c.G.fl q ρ2 s3 with
      | nx ρ4 s4 => exact fun p3 σ4 H4 w4 O4 I4 l4 => ⟨ρ4, w4, s4, O4, I4, PostS.le p3 l4⟩
      | cnt ρ4 s4 => exact fun p3 σ4 H4 w4 O4 I4 l4 => ⟨ρ4, w4, s4, O4, I4, PostS.le p3 l4⟩
      | brk ρ4 s4 => exact fun p3 => p3
      | ret z s4 => exact fun p3 => p3
      | exc cn fs ρ4 s4 => exact fun p3 => p3
      | stk => exact fun p3 => p3
    | false => exact iteF (p3 σ2 H3 w3 O2 I3 Le.refl)
end
end DL

set_option Elab.async false
set_option linter.all false
set_option maxRecDepth 100000
set_option maxHeartbeats 8000000
/-! The data layer, part o: from a def's promise to its calls; raise. -/
namespace DL
open PySem PySem.Spec PyProof.Rows L2
variable {J : Type}
/-- a def's promise: it gives what g gives -/
def spD (T : Jt J) (G : Gs) (f : Sg) (g : Fn J) (hot : Bool) : Sp := fun vs H Q E => vs.length = f.ps.length ∧ ∃ ds w s O, OOk O w H ∧ JOk T O H w s ∧ Reps G O w H ds vs ∧ ds.length = f.ps.length ∧ Post T G (if hot then WN else fun cls dd _ H' => E cls dd H') ([] : St) O H w false (g ds s) Q
theorem Post.imp {T : Jt J} {G : Gs} {W W' : WX} {σ σ' : St} {O : Addr → Prop} {H : Hp} {w : Ws} {rd : Bool} {r : R J (D × Bool)} {Q : VK} (h : Post T G W σ O H w rd r Q) (hW : ∀ cls dd H', W cls dd σ H' → W' cls dd σ' H') : Post T G W' σ' O H w rd r Q := by
  cases r with
  | ok x s => exact h
  | exc c fs s => exact fun cls dd H' w' g e => hW _ _ _ (h cls dd H' w' g e)
  | stk => exact h
theorem gd_room {t : Tx} {k : Nat} {X : Cx} {W : WX} (gd : Gd t false k X W) : Room k X.A := ⟨(gd.cold rfl).2, gd.room.dp, gd.room.un⟩
/-- a def's promise where no repr is under way -/
structure FnZ (P : Program) (w : World) (K : PySem.W.Frag) (mg : Str → Option Value) (base : Heap) (CX : CXT) (k : Nat) (f : Addr) (fd : FuncData) (ps : List Str) (sp : Sp) : Prop where
  len : ∀ vs H Q E, sp vs H Q E → vs.length = ps.length
  run : ∀ (A : Around) (outer : List PySem.Env) (s : Shared) (H : Hp) (args : Args) (us : List Value) (vs : List V) (Q : VK) (E : XK), Room k A → A.guards = some [] → Env0 P w K mg base A outer s H →
    BindsTo s fd args (ps.zip us) → Vals vs us → sp vs H Q E → codeAny (model P w) A (.call (.ref f) args) (CR CX outer P w H s Q E) s
theorem FnZ.of {P : Program} {w : World} {K : PySem.W.Frag} {mg : Str → Option Value} {base : Heap} {CX : CXT} {k : Nat} {f : Addr} {fd : FuncData} {ps : List Str} {sp : Sp} (F : FnOk P w K mg base CX k f fd ps sp) : FnZ P w K mg base CX k f fd ps sp :=
  ⟨F.len, fun A outer s H args us vs Q E hr _ => F.run A outer s H args us vs Q E hr⟩
theorem FnZ.imp {P : Program} {w : World} {K : PySem.W.Frag} {mg : Str → Option Value} {base : Heap} {CX : CXT} {k : Nat} {f : Addr} {fd : FuncData} {ps : List Str} {sp sp' : Sp} (F : FnZ P w K mg base CX k f fd ps sp) (h : ∀ vs H Q E, sp' vs H Q E → sp vs H Q E) : FnZ P w K mg base CX k f fd ps sp' :=
  ⟨fun vs H Q E q => F.len vs H Q E (h _ _ _ _ q), fun A outer s H args us vs Q E hr hg e0 hb hv q => F.run A outer s H args us vs Q E hr hg e0 hb hv (h _ _ _ _ q)⟩
theorem run_z {X : Cx} {W : WX} {j : Nat} {fa : Addr} {fd : FuncData} {ps : List Str} {sp : Sp} {pins : List (Addr × Obj)} {σ : St} {H : Hp} {s : Shared} {Q : VK} {args : Args} {us : List Value} {vs : List V} (F : FnZ X.prog X.w X.K X.mg X.base (L2N.CX X.prog X.w) j fa fd ps sp)
    (hr : Room j X.A) (hg : X.A.guards = some []) (tk : L2N.Takes X W) (I : Inv X pins σ H s) (bb : BindsTo s fd args (ps.zip us)) (rv : Vals vs us) (hsp : sp vs H Q (WE W σ)) : wpAny (model X.prog X.w) X.A (call (.ref fa) args.pos args.kw) (EP X pins σ Q) X.xe s := by
  refine wpAny_call (codeAny_mono (F.run X.A X.stack s H args us vs Q (WE W σ) hr hg I.env0 bb rv hsp) fun rr s' hq => ?_)
  match rr, hq with
  | .error er, hq => exact L2N.passAt tk σ pins H s er s' I hq
  | .ok (.ret u), hq => exact I.after hq
  | .ok .next, hq => exact False.elim hq
  | .ok .brk, hq => exact False.elim hq
  | .ok .cont, hq => exact False.elim hq
/-- how keywords bind -/
def KB (fd : FuncData) (f : Sg) : Prop := ∀ p ∈ f.kl, p.1 ≤ f.ps.length ∧ ∀ us ws zs : List Value, us.length = p.1 → ws.length = p.2.length → ordK f.ps p.2 us ws = some zs → bindArgs fd ⟨us, p.2.zip ws⟩ = pure (f.ps.zip zs)
theorem ordT_reps {G : Gs} {O : Addr → Prop} {w : Ws} {H : Hp} {ks : List Str} {ys : List D} {us : List V} (r : Reps G O w H ys us) : ∀ {ps : List Str} {zs : List D}, ordT ks ys ps = some zs → ∃ vs, ordT ks us ps = some vs ∧ Reps G O w H zs vs
  | [], zs, h => by cases h; exact ⟨[], rfl, rfl⟩
  | p :: ps, zs, h => by
    unfold ordT at h ⊢
    cases e : ixStr p ks with
    | none => rw [e] at h; cases h
    | some j =>
      simp only [e, Option.bind_some] at h ⊢
      cases e2 : ys[j]? with
      | none => rw [e2] at h; cases h
      | some y =>
        obtain ⟨v, hv, rv⟩ := r.get e2
        simp only [e2, Option.bind_some] at h
        obtain ⟨q, hq, rfl⟩ := Option.map_eq_some_iff.mp h
        obtain ⟨vs, h1, h2⟩ := ordT_reps r hq
        exact ⟨v :: vs, by rw [hv, h1]; rfl, v, vs, rfl, rv, h2⟩
theorem ordT_vals {ks : List Str} {ys : List V} {us : List Value} (r : Vals ys us) : ∀ {ps : List Str} {zs : List V}, ordT ks ys ps = some zs → ∃ vs, ordT ks us ps = some vs ∧ Vals zs vs
  | [], zs, h => by cases h; exact ⟨[], rfl, .nil⟩
  | p :: ps, zs, h => by
    unfold ordT at h ⊢
    cases e : ixStr p ks with
    | none => rw [e] at h; cases h
    | some j =>
      simp only [e, Option.bind_some] at h ⊢
      cases e2 : ys[j]? with
      | none => rw [e2] at h; cases h
      | some y =>
        obtain ⟨v, hv, rv⟩ := r.get e2
        simp only [e2, Option.bind_some] at h
        obtain ⟨q, hq, rfl⟩ := Option.map_eq_some_iff.mp h
        obtain ⟨vs, h1, h2⟩ := ordT_vals r hq
        exact ⟨v :: vs, by rw [hv, h1]; rfl, .cons rv h2⟩
theorem ordT_len {α : Type} {ks : List Str} {ys : List α} : ∀ {ps : List Str} {zs : List α}, ordT ks ys ps = some zs → zs.length = ps.length
  | [], zs, h => by cases h; rfl
  | p :: ps, zs, h => by
    unfold ordT at h
    cases e : ixStr p ks with
    | none => rw [e] at h; cases h
    | some j =>
      simp only [e, Option.bind_some] at h
      cases e2 : ys[j]? with
      | none => rw [e2] at h; cases h
      | some y =>
        simp only [e2, Option.bind_some] at h
        obtain ⟨q, hq, rfl⟩ := Option.map_eq_some_iff.mp h
        rw [List.length_cons, List.length_cons, ordT_len hq]
theorem kw_all {env : PySem.Env} {pos : Pos} : ∀ {kws : List Keyword} {ks : List Str}, kws.map (·.arg) = ks.map some → (backToKw pos (keywordEach kws env)).all (·.1.isSome) = true ∧ (backToKw pos (keywordEach kws env)).filterMap (·.1) = ks ∧ (backToKw pos (keywordEach kws env)).any (·.1.isNone) = false
  | [], [], _ => ⟨rfl, rfl, rfl⟩
  | [], _ :: _, h => by simp at h
  | _ :: _, [], h => by simp at h
  | ⟨n, v, p⟩ :: kws, k :: ks, h => by
    simp only [List.map_cons, List.cons.injEq] at h
    obtain ⟨h1, h2⟩ := h
    obtain ⟨q1, q2, q3⟩ := kw_all (env := env) (pos := pos) h2
    subst h1
    refine ⟨?_, ?_, ?_⟩
    · exact q1
    · exact congrArg (List.cons k) q2
    · exact q3
theorem ordK_len {α : Type} {ps ks : List Str} {xs ys zs : List α} (h : ordK ps ks xs ys = some zs) (hl : xs.length ≤ ps.length) : zs.length = ps.length := by
  unfold ordK at h
  obtain ⟨q, hq, rfl⟩ := Option.map_eq_some_iff.mp h
  rw [List.length_append, ordT_len hq, List.length_drop]
  omega
section
variable {t : Tx} {k j : Nat} {T : Jt J} {G : Gs} {f : Sg} {g : Fn J} {fa : Addr} {fd : FuncData}
theorem cl_cold (F : FnZ t.P t.w t.K t.mg t.base (L2N.CX t.P t.w) j fa fd f.ps (spD T G f g false)) (hj : j ≤ k) (hm : t.mg f.x = some (.ref fa)) (hk : PySem.W.keepIn t.K (.ref fa) = true) (hb : Binds t.K fd f.ps []) (hkb : KB fd f) : ClOk t false k T G f g where
  run := fun X W a as ta p pos gd gl h1 h2 hl mo ha => by
    have F' : FnZ X.prog X.w X.K X.mg X.base (L2N.CX X.prog X.w) j fa fd f.ps (spD T G f g false) := by rw [gd.pr, gd.wd, gd.K, gd.mg, gd.base]; exact F
    refine ⟨fun pins s σ H Q I hq => ?_⟩
    refine wpAny_Call_Name_kw (ld_glob I (glG gl) (by rw [gd.mg]; exact hm) ?_ (glB_gl gl).2)
    refine PySem.W.callWith_K (h₀ := X.base) I.ok.mod.kin (by rw [gd.K]; exact hk) (thn (ha.run pos pins s σ H _ I hq) fun us s1 ⟨vs, H1, I1, rv, q⟩ => ⟨I1.kIn, ?_⟩) (pl_star h1 _) (pl_any h2)
    obtain ⟨ds, w, s0, O, hl2, oo, jo, rs, q⟩ := q
    have hv : vs.length = f.ps.length := by rw [← rs.length]; exact hl2
    have bb := hb s1 us (by rw [← gd.K]; exact I1.kIn) (by rw [List.append_nil, ← rv.length]; exact hv)
    rw [List.append_nil] at bb
    exact run_z (args := ⟨us, []⟩) F' ((gd_room gd).mono hj) (gd.gr rfl) gd.tk I1 bb rv ⟨hv, ds, w, s0, O, oo, jo, rs, hl2, q.imp fun _ _ _ z => z⟩
  runk := fun X W as ks kws ta tk p pos _ gd gl h2 hkl hn mo mk ha hkw => by
    have F' : FnZ X.prog X.w X.K X.mg X.base (L2N.CX X.prog X.w) j fa fd f.ps (spD T G f g false) := by rw [gd.pr, gd.wd, gd.K, gd.mg, gd.base]; exact F
    obtain ⟨kl, kb⟩ := hkb _ hkl
    obtain ⟨b1, b2, b3⟩ := kw_all (env := X.env) (pos := pos) hn
    have hpl := pl_any (env := X.env) (pos := pos) h2
    have fin : ∀ {pins : List (Addr × Obj)} {σ : St} {H2 : Hp} {s2 : Shared} {Q : VK} {us ws : List Value} {vs zs : List V}, Inv X pins σ H2 s2 → Vals vs us → Vals zs ws →
        (∃ ds ys w s O, ds.length = as.length ∧ ys.length = ks.length ∧ OOk O w H2 ∧ JOk T O H2 w s ∧ Reps G O w H2 ds vs ∧ Reps G O w H2 ys zs ∧ Post T G W σ O H2 w false ((liftO (ordK f.ps ks ds ys) s).bind g) Q) →
        wpAny (model X.prog X.w) X.A (call (.ref fa) us (ks.zip ws)) (EP X pins σ Q) X.xe s2 := by
      intro pins σ H2 s2 Q us ws vs zs I2 r rz q
      obtain ⟨ds, ys, w, s, O, l1, l2, oo, jo, rs, ry, q⟩ := q
      have lu : us.length = as.length := by rw [← r.length, ← rs.length, l1]
      have lw : ws.length = ks.length := by rw [← rz.length, ← ry.length, l2]
      cases e : ordK f.ps ks ds ys with
      | none => rw [e] at q; exact q.elim
      | some zd =>
        rw [e] at q
        have hlz : zd.length = f.ps.length := ordK_len e (by rw [rs.length, r.length, lu]; exact kl)
        have hlds : ds.length = vs.length := rs.length
        have hlvs : vs.length = us.length := r.length
        unfold ordK at e
        obtain ⟨td, ht, rfl⟩ := Option.map_eq_some_iff.mp e
        rw [hlds] at ht
        obtain ⟨tv, ht2, rt⟩ := ordT_reps ry ht
        rw [hlvs] at ht2
        obtain ⟨tu, ht3, rt2⟩ := ordT_vals rz ht2
        have e3 : ordK f.ps ks us ws = some (us ++ tu) := by unfold ordK; rw [ht3]; rfl
        have bb : BindsTo s2 fd ⟨us, ks.zip ws⟩ (f.ps.zip (us ++ tu)) := .of_eq (kb us ws _ lu lw e3)
        have hsp : spD T G f g false (vs ++ tv) H2 Q (WE W σ) := ⟨by rw [← (rs.append rt).length]; exact hlz, ds ++ td, w, s, O, oo, jo, rs.append rt, hlz, (show Post T G W σ O H2 w false (g (ds ++ td) s) Q from q).imp fun _ _ _ z => z⟩
        exact run_z (args := ⟨us, ks.zip ws⟩) F' ((gd_room gd).mono hj) (gd.gr rfl) gd.tk I2 bb (r.append rt2) hsp
    refine ⟨fun pins s σ H Q I hq => ?_⟩
    have hkp : PySem.W.keepIn X.K (.ref fa) = true := by rw [gd.K]; exact hk
    refine wpAny_Call_Name_kw (ld_glob I (glG gl) (by rw [gd.mg]; exact hm) ?_ (glB_gl gl).2)
    cases as with
    | nil =>
      refine PySem.W.callWith_KW0 (h₀ := X.base) I.ok.mod.kin hkp b1 ?_ (by rw [b3]; rfl)
      have e0 := ha.run pos pins s σ H _ I hq
      have sn : spliced (backTo pos (starEach [] X.env)) = pure [] := rfl
      rw [sn] at e0
      refine fun Γ pp hΓ => ?_
      obtain ⟨vs, H1, I1, r, q⟩ := (show AP X pins σ _ [] s from e0 Γ pp hΓ)
      refine (thn (hkw.run pos pins s σ H1 _ I1 q) fun ws s2 ⟨zs, H2, I2, rz, q2⟩ => ⟨I2.kIn, ?_⟩) Γ pp hΓ
      rw [b2]
      exact fin I2 r rz q2
    | cons e es =>
      have h1 := pl_star (env := X.env) (h2 e List.mem_cons_self) es
      refine PySem.W.callWith_KW (h₀ := X.base) I.ok.mod.kin hkp b1 (thn (ha.run pos pins s σ H _ I hq) fun us s1 ⟨vs, H1, I1, r, q⟩ => ?_) (by rw [b3, hpl]; rfl) h1
      refine thn (hkw.run pos pins s1 σ H1 _ I1 q) fun ws s2 ⟨zs, H2, I2, rz, q2⟩ => ⟨I2.kIn, ?_⟩
      rw [b2]
      exact fin I2 r rz q2
theorem cl_hot (F : L2H.FnH t.P t.w t.K t.mg t.base CX0 j fa fd f.ps (spD T G f g true)) (hj : j ≤ k) (hm : t.mg f.x = some (.ref fa)) (hk : PySem.W.keepIn t.K (.ref fa) = true) (hb : Binds t.K fd f.ps []) : ClOk t true k T G f g where
  run := fun X W a as ta p pos gd gl h1 h2 hl mo ha => by
    have F' : L2H.FnH X.prog X.w X.K X.mg X.base CX0 j fa fd f.ps (spD T G f g true) := by rw [gd.pr, gd.wd, gd.K, gd.mg, gd.base]; exact F
    obtain ⟨hot, hW⟩ := gd.hot rfl
    subst hW
    refine PE.mono (L2H.pe_callH (E := fun _ => fun _ _ _ => False) F' (gd.room.mono hj) hot (glG gl) (by rw [gd.mg]; exact hm) (by rw [gd.K]; exact hk) (by rw [gd.K]; exact hb) (fun _ _ _ _ _ _ _ z => z.elim) ha (glB_gl gl).2 (pl_star h1 _) (pl_any h2)) fun σ H Q hq => ?_
    refine mo σ H _ _ ?_ hq
    rintro vs H1 ⟨ds, w, s, O, hl2, oo, jo, rs, q⟩
    exact ⟨by rw [← rs.length]; exact hl2, ds, w, s, O, oo, jo, rs, hl2, q.imp fun _ _ _ z => z⟩
  runk := fun X W as ks kws ta tk p pos z => nomatch z
end
end DL

set_option Elab.async false
set_option linter.all false
set_option maxRecDepth 100000
set_option maxHeartbeats 8000000
/-! The data layer, part p: raise, own errors. -/
namespace DL
open PySem PySem.Spec PyProof.Rows L2
variable {J : Type}
/-- an own error's making -/
structure RsOk (t : Tx) (k : Nat) (G : Gs) (x : Str) (n : Nat) : Prop where
  len : (G.fl x).length = n
  run : ∀ (X : Cx) (W : WX) (a : Expr) (as : List Expr) (ta : TA) (p pos : Pos), Gd t false k X W → glB X.env.scope x = true → plE a = true → (∀ b ∈ as, plE b = true) → as.length + 1 = n → TMono ta → PA X (a :: as) ta →
    ∃ C, G.xa x = some C ∧ L2N.PMk X (.Call (.Name x p) (a :: as) [] pos) (fun σ H Q => ta σ H fun vs H1 => vs.length = n ∧ ∀ d, H1 d = none → Q (.ref C) (some d) (upd H1 d (.xd ((G.fl x).zip vs.reverse))))
theorem s_rse {t : Tx} {k n : Nat} {c : Cf J} {X : Cx} {W : WX} {x : Str} {a : Expr} {as : List Expr} {es : Es J} {p pos pos2 : Pos} (R : RsOk t k c.G x n) (gd : Gd t false k X W) (gl : glB X.env.scope x = true) (h1 : plE a = true) (h2 : ∀ b ∈ as, plE b = true) (hl : as.length + 1 = n) (hes : es.len = n)
    (ha : PA X (a :: as) (tA c W false es)) : PS X (.Raise (some (.Call (.Name x p) (a :: as) [] pos)) none pos2) (tS c W (.rse x es)) := by
  obtain ⟨C, hC, mk⟩ := R.run X W a as _ p pos gd gl h1 h2 hl tA_mono ha
  refine PS.mono (L2N.ps_raise (gd.cold rfl).1 gd.tk mk) fun D σ H hq => ?_
  obtain ⟨ρ, w, s, O, I, q⟩ := hq
  simp only [sv] at q
  refine ⟨ρ, w, s, O, I, ?_⟩
  cases r : evs c.G.fl false es ρ s with
  | stk => rw [r] at q; exact q.elim
  | exc cn fs s1 => rw [r] at q; exact fun cls dd H1 w1 g e => (show ∀ cls dd σ' H' w' O', EI c ρ σ' H' w' s1 O' → Le O w H O' w' H' → ExcR c.G O' w' H' cn fs cls dd → W cls dd σ' H' from q) cls dd σ H1 w1 O (I.step g) g.le e
  | ok xs s1 =>
    rw [r] at q
    intro vs H1 w1 g1 r1
    have I1 := I.step g1
    have hn : vs.length = n := by rw [← r1.length, evs_len r, hes]
    refine ⟨hn, fun d hd => ?_⟩
    have gn : Go c.T O H1 w1 (upd H1 d (.xd ((c.G.fl x).zip vs.reverse))) w1 s1 := Go.new I1.jok hd
    refine (show ∀ cls dd σ' H' w' O', EI c ρ σ' H' w' s1 O' → Le O w H O' w' H' → ExcR c.G O' w' H' x xs.reverse cls dd → W cls dd σ' H' from q) (.ref C) (some d) σ _ w1 O (I1.step gn) (g1.le.trans gn.le) ?_
    exact ⟨C, d, vs.reverse, hC, rfl, rfl, upd_same, I1.oo.free I1.jok hd, by rw [List.length_reverse, hn]; exact R.len, (r1.reps.reverse).le gn.le⟩

/-! ### an own error with its own __init__ -/
section
variable {X : Cx} {e : Expr} {es : List Expr} {ta : TA} {p pos : Pos} {x : Str} {C fI : Addr} {k : Nat} {fd : FuncData} {ps : List Str} {sp : Sp}
theorem pmkN_oex (T : OexC X.K C) (iC : PySem.W.findIn X.K (.ref C) "__init__" = some (some (.ref fI))) (tI : PySem.W.typeIn X.K (.ref fI) = some (.type "function")) (F1 : FnOk X.prog X.w X.K X.mg X.base CX0 k fI fd ps sp)
    (hr : Room (k + 1) X.A) (hb : Binds X.K fd ps []) (hg : Gl X x) (hm : X.mg x = some (.ref C)) (hdb : (x == ("__debug__" : Str)) = false) (ha : PA X (e :: es) ta)
    (he : starEach (e :: es) X.env = (false, eval e X.env) :: starEach es X.env) (hpl : (backTo pos (starEach es X.env)).any (·.1) = false) : L2N.PMk X (.Call (.Name x p) (e :: es) [] pos) (tMkO C sp [] ta) := by
  intro pins s σ H Q I h
  have ⟨nm, q, N, bs, bm, sn, sub, ab, col, dd, k0, k1, k2, k3, k5, hC, hbm⟩ := T.cls
  refine wpAny_Call_Name_kw (ld_glob I hg hm
    (PySem.W.callWith_K (h₀ := X.base) I.ok.mod.kin T.kC (thn (ha.run pos pins s σ H _ I h) fun us s1 hh => ?_) he hpl) hdb)
  obtain ⟨vs, H1, I1, r1, hz, q1⟩ := hh
  refine ⟨I1.kIn, ?_⟩
  obtain ⟨hp, g, dr, tk, os⟩ := s1
  let z : Addr := hp.objs.size + 1
  let hp2 : Heap := (hp.push (PySem.W.kdv_tup us)).push (PySem.HandSPX.excO C hp.objs.size)
  have hq := q1 z (I1.hok.fresh (Nat.le_succ _))
  rw [List.append_nil] at hq
  have old : ∀ b o, hp.get? b = some o → hp2.get? b = some o := fun b o e =>
    Heap.get?_push_of_some _ (Heap.get?_push_of_some _ e)
  have atz : hp2.get? z = some (PySem.HandSPX.excO C hp.objs.size) := by
    show ((hp.push (PySem.W.kdv_tup us)).push (PySem.HandSPX.excO C hp.objs.size)).get? (hp.objs.size + 1) = _
    heap_get
  have I2 : Inv X pins σ (upd H1 z (exo z C none)) ⟨hp2, g, dr, tk, os⟩ :=
    I1.laid (a := z) (t' := tk) (h' := hp2) old (Nat.le_succ _) (exo_ok atz)
  have r2 : Vals (V.ref z :: vs) (Value.ref z :: us) := .cons rfl r1
  have hl : (Value.ref z :: us ++ []).length = ps.length := by
    rw [List.append_nil, ← r2.length]
    exact F1.len _ _ _ _ hq
  have b2 := hb ⟨hp2, g, dr, tk, os⟩ (Value.ref z :: us) I2.kIn hl
  rw [List.append_nil] at b2
  have hus : us.length ≤ sizeLine := by
    rw [← Paired.length r1, sizeLine_eq]; omega
  have body : codeAny (model X.prog X.w) (X.A.under (.builtin "type.__call__" ⟨.ref C :: us, []⟩)) (.call (.ref fI) ⟨Value.ref z :: us, []⟩) _ _ :=
    F1.run _ X.stack _ _ _ _ _ _ (fun _ _ _ => False) (hr.make C us []) (I2.env0.make C us []) b2 r2 hq
  refine wpAny_call (PySem.HandSPX.call_own F.excBase_ValueError (fun Y => PySem.HandSPX.refsVE_contains Y bm hbm) (I1.kIn _ _ hC)
    (PySem.W.looks_findIn I1.kIn iC) (fun self => PySem.W.bind_fn I1.kIn self tI) hus (codeAny_mono body fun r s' hq' => ?_))
  match r, hq' with
  | .error er, hq' => exact False.elim hq'
  | .ok .next, hq' => exact False.elim hq'
  | .ok .brk, hq' => exact False.elim hq'
  | .ok .cont, hq' => exact False.elim hq'
  | .ok (.ret u), ⟨v, H2, os2, bare2, un2, hok2, rv, ev, d, fs, ea, ed, hd1, q2⟩ =>
    subst ev
    obtain ⟨h2, g2, d2, t2, os'⟩ := s'
    obtain ⟨t0, GG, J2, kG, ge, hoe, na⟩ := mk_end0 (d2 := d2) (t2 := t2) I1 (Nat.le_succ _) old un2 hok2 os2 bare2 ea ed hd1
    refine ⟨rv, z, _, _, ⟨GG, g2, d2, t2, os'⟩, _, .ref C, some d, rfl, J2, kG, ge, hoe, ⟨rfl, rfl, fun vs hv => ?_⟩, rfl, rfl, na, rfl, bare2, raises_own T.exC T.tyC, q2⟩
    cases hv
    rfl
end
/-- what __init__(self, v): self.f = v does -/
def spI1 (K : PySem.W.Frag) (f : Str) : Sp := fun vs H Q E => ∃ (a C : Addr) (y : V), vs = [.ref a, y] ∧ H a = some (exo a C none) ∧ OexC K C ∧ PySem.W.findIn K (.ref C) f = some none ∧
  ∀ dx, H dx = none → dx ≠ a → Q .non (upd (upd H dx (exd dx [(f, y)])) a (exo a C (some dx)))
theorem fn_init1 {P : Program} {w : World} {K : PySem.W.Frag} {mg : Str → Option Value} {base : Heap} {k : Nat} {f : Addr} {name qual fld v : Str} {params : Arguments} {scope : Scope} {dV kV doc pm cdv ct oc : Value} {an od : Option Addr} {osl : Array (Option Value)} {q1 q2 q3 q4 : Pos}
    (lk : K.lookup f = some ⟨oc, od, .func (PySem.W.fnOf name qual params [.Assign [.Attribute (.Name "self" q1) fld q2] (.Name v q3) q4] scope dV kV doc pm an cdv ct), osl⟩) (hcd : PySem.W.codeIn K cdv qual = true) (S : FnScope ["self", v] ["self", v] scope)
    (hs : varB scope ["self", v] 0 "self" = true) (hv : varB scope ["self", v] 1 v = true) :
    FnOk P w K mg base CX0 (k + 1) f (PySem.W.fnOf name qual params [.Assign [.Attribute (.Name "self" q1) fld q2] (.Name v q3) q4] scope dV kV doc pm an cdv ct) ["self", v] (spI1 K fld) := by
  refine fn_of lk hcd S (fun vs H Q E ⟨a, C, y, e, _⟩ => by rw [e]; rfl) fun A outer s H vs Q E hr hsp => ?_
  unfold varB at hs hv
  simp only [Bool.and_eq_true, decide_eq_true_eq] at hs hv
  obtain ⟨⟨⟨_, s2⟩, s3⟩, s4⟩ := hs
  obtain ⟨⟨⟨_, v2⟩, v3⟩, v4⟩ := hv
  refine ⟨_, pss_one (ps_ost (pe_var (i := 0) rfl (visB_vis s2) (beq_eq_false_iff_ne.mpr s3) (beq_eq_false_iff_ne.mpr s4)) (pe_var (i := 1) rfl (visB_vis v2) (beq_eq_false_iff_ne.mpr v3) (beq_eq_false_iff_ne.mpr v4))), ?_⟩
  obtain ⟨a, C, y, rfl, ha, T, hf, q⟩ := hsp
  exact ⟨y, rfl, .ref a, rfl, a, C, rfl, T, hf, .inl ⟨ha, fun dx h1 h2 => q dx h1 h2⟩⟩
theorem rs_of1 {t : Tx} {k j : Nat} {G : Gs} {x fld v : Str} {C fI : Addr} {fd : FuncData} (hG : G.xa x = some C) (hfl : G.fl x = [fld]) (T : OexC t.K C) (iC : PySem.W.findIn t.K (.ref C) "__init__" = some (some (.ref fI))) (tI : PySem.W.typeIn t.K (.ref fI) = some (.type "function"))
    (hno : PySem.W.findIn t.K (.ref C) fld = some none) (F1 : FnOk t.P t.w t.K t.mg t.base CX0 j fI fd ["self", v] (spI1 t.K fld)) (hj : j + 1 ≤ k) (hb : Binds t.K fd ["self", v] []) (hm : t.mg x = some (.ref C)) : RsOk t k G x 1 where
  len := by rw [hfl]; rfl
  run := fun X W a as ta p pos gd gl h1 h2 hl mo ha => by
    refine ⟨C, hG, ?_⟩
    have F' : FnOk X.prog X.w X.K X.mg X.base CX0 j fI fd ["self", v] (spI1 t.K fld) := by rw [gd.pr, gd.wd, gd.K, gd.mg, gd.base]; exact F1
    have mk := pmkN_oex (by rw [gd.K]; exact T) (by rw [gd.K]; exact iC) (by rw [gd.K]; exact tI) F' ((gd_room gd).mono hj) (by rw [gd.K]; exact hb) (glG gl) (by rw [gd.mg]; exact hm) (glB_gl gl).2 ha (pl_star h1 _) (pl_any (pos := pos) h2) (p := p)
    intro pins s σ H Q I hq
    refine mk pins s σ H Q I (mo σ H _ _ ?_ hq)
    rintro vs H1 ⟨hn, q⟩
    refine ⟨by omega, fun aa haa => ?_⟩
    match vs, hn with
    | [y], _ =>
      refine ⟨aa, C, y, rfl, upd_same, T, hno, fun dx h1 h2 => ⟨rfl, dx, [(fld, y)], upd_same, ?_, ?_, ?_⟩⟩
      · rw [upd_ne h2, upd_same]
      · rw [upd_ne h2] at h1; exact h1
      · have hdx : H1 dx = none := by rw [upd_ne h2] at h1; exact h1
        have e : upd (del (upd (upd (upd H1 aa (exo aa C none)) dx (exd dx [(fld, y)])) aa (exo aa C (some dx))) aa) dx (.xd [(fld, y)]) = upd H1 dx (.xd ((G.fl x).zip [y].reverse)) := by
          rw [hfl]
          funext b
          by_cases hb : b = dx
          · rw [hb, upd_same, upd_same]; rfl
          · rw [upd_ne hb, upd_ne hb]
            by_cases hb2 : b = aa
            · rw [hb2, del_same, haa]
            · rw [del_ne hb2, upd_ne hb2, upd_ne hb, upd_ne hb2]
        rw [e]
        exact q dx hdx
end DL

set_option Elab.async false
set_option linter.all false
set_option maxRecDepth 100000
set_option maxHeartbeats 8000000
/-! The data layer, part q: try, a box's item is put. -/
namespace DL
open PySem PySem.Spec PyProof.Rows L2
variable {J : Type}
/-- a frame, beside Gd -/
structure GdS (X : Cx) : Prop where
  fn : ∀ x, X.fn x = true
  kind : X.env.scope.kind = .function
  po : PassesOwn (model X.prog X.w) X.A X.env X.xe
  hs : X.stack = X.env :: X.outer
  hf : X.env.frame = some X.env.locals
theorem getD_noXc {ρ : Env} {i : Nat} : (noXc ρ)[i]? = (ρ[i]?).map unXc := by
  unfold noXc
  rw [List.getElem?_map]
section
variable {c : Cf J} {ρ : Env} {σ : St} {H : Hp} {w : Ws} {s : List J} {O : Addr → Prop}
/-- from a suite's frame back -/
theorem EI.noXc {xo : Option (Addr × Value × Option Addr)} (I : EI { c with xo := xo } ρ σ H w s O) : EI c (noXc ρ) σ H w s O where
  go := I.go
  oo := I.oo
  o0 := I.o0
  len := by unfold DL.noXc; rw [List.length_map]; exact I.len
  sl := fun i x e => by
    rw [getD_noXc] at e
    obtain ⟨y, hy, rfl⟩ := Option.map_eq_some_iff.mp e
    have q := I.sl i y hy
    cases y with
    | no => trivial
    | xc cn fs => trivial
    | sh d => exact q
    | ow ds =>
      obtain ⟨a, vs, k1, k2, k3, k4, k5, k6, k7⟩ := q
      refine ⟨a, vs, k1, k2, k3, k4, k5, k6, fun j es hj e2 => ?_⟩
      rw [getD_noXc] at e2
      obtain ⟨y2, hy2, e3⟩ := Option.map_eq_some_iff.mp e2
      cases y2 <;> simp only [unXc] at e3 <;> first | cases e3 | skip
      exact k7 j _ hj hy2
/-- into a suite -/
theorem EI.toXc (I : EI c ρ σ H w s O) (hxo : c.xo = none) {a : Addr} {cls : Value} {d : Option Addr} {cn : Str} {fs : List D} (i : Nat) (e : ExcR c.G O w H cn fs cls d) :
    EI { c with xo := some (a, cls, d) } (ρ.set i (.xc cn fs)) (σ.set i (some (.ref a))) H w s O where
  go := I.go
  oo := I.oo
  o0 := I.o0
  len := by rw [List.length_set, List.length_set]; exact I.len
  sl := fun j x e1 => by
    by_cases hij : i = j
    · subst hij
      by_cases hi : i < ρ.length
      · rw [List.getElem?_set_self hi] at e1
        cases e1
        exact ⟨a, cls, d, rfl, List.getElem?_set_self (by rw [← I.len]; exact hi), e⟩
      · rw [List.getElem?_eq_none (by simpa using hi)] at e1; cases e1
    · rw [List.getElem?_set_ne hij] at e1
      have q := I.sl j x e1
      cases x with
      | no => trivial
      | xc cn' fs' =>
        obtain ⟨_, _, _, q1, _⟩ := q
        rw [hxo] at q1; cases q1
      | sh dd =>
        obtain ⟨v, q1, q2⟩ := q
        exact ⟨v, (List.getElem?_set_ne hij).trans q1, q2⟩
      | ow ds =>
        obtain ⟨b, vs, k1, k2, k3, k4, k5, k6, k7⟩ := q
        refine ⟨b, vs, (List.getElem?_set_ne hij).trans k1, k2, k3, k4, k5, k6, fun l es hl e2 => ?_⟩
        by_cases hil : i = l
        · subst hil
          by_cases hi : i < ρ.length
          · rw [List.getElem?_set_self hi] at e2; cases e2
          · rw [List.getElem?_eq_none (by simpa using hi)] at e2; cases e2
        · rw [List.getElem?_set_ne hil] at e2 ⊢
          exact k7 l es hl e2
end
/-- how an except clause's class sorts the own errors -/
def YesOk (K : PySem.W.Frag) (G : Gs) (cv : Value) (yes : Str → Bool) : Prop := ∀ cn C, G.xa cn = some C → PySem.W.exmOne K (.ref C) cv = some (yes cn)
theorem gd_suite {t : Tx} {k : Nat} {X : Cx} {W : WX} (gd : Gd t false k X W) {a : Addr} {oe : Obj} {cls : Value} {d : Option Addr} (pn : List (Addr × Obj)) (z : L2N.Zn cls d oe) (hv : ∃ vs, oe.data = .fields vs) : Gd t true k (X.suite a ((a, oe) :: pn)) WN :=
  ⟨gd.pr, gd.wd, gd.K, gd.mg, gd.base, gd.nd, fun u s' ⟨a, B, sI, pins, σ, H, cls, d, e, I, nb, up, sky, na, os, ag, w⟩ => w.elim, ⟨gd.room.dp, gd.room.un⟩, (fun q => nomatch q), (fun q => nomatch q), fun _ => ⟨by
    obtain ⟨vs, e⟩ := hv
    exact ⟨(a, oe), ⟨rfl, vs, e, z.2.2 vs e⟩, List.mem_cons_self⟩, rfl⟩⟩
theorem gds_suite {X : Cx} (gs : GdS X) (a : Addr) (pn : List (Addr × Obj)) : GdS (X.suite a pn) := ⟨gs.fn, gs.kind, PassesOwn.never, gs.hs, gs.hf⟩
theorem gd_tr {t : Tx} {k : Nat} {X : Cx} {W W' : WX} (gd : Gd t false k X W) (pn : List (Addr × Obj)) (xe : Value → Shared → Prop) (tk : L2N.Takes (X.tr pn xe) W') : Gd t false k (X.tr pn xe) W' :=
  ⟨gd.pr, gd.wd, gd.K, gd.mg, gd.base, gd.nd, tk, gd.room, gd.cold, gd.gr, fun q => nomatch q⟩
theorem gds_tr {X : Cx} (gs : GdS X) (pn : List (Addr × Obj)) (xe : Value → Shared → Prop) (po : PassesOwn (model X.prog X.w) X.A X.env xe) : GdS (X.tr pn xe) := ⟨gs.fn, gs.kind, po, gs.hs, gs.hf⟩
section
variable {t : Tx} {k : Nat} {c : Cf J} {X : Cx} {W : WX}
theorem s_try1 {body suite : List Stmt} {b0 : Stmt} {x n : Str} {i : Nat} {np pos pos' : Pos} {b hd : Sms J} {yes : Str → Bool} {cv : Value} (T : Tf t c.G) (hxo : c.xo = none) (gd : Gd t false k X W) (gs : GdS X) (hi : X.N[i]? = some n) (hln : X.env.scope.names.lookup n = some .local) (hc : Names X x cv) (hy : YesOk c.G.K c.G cv yes)
    (hb : ∀ (X' : Cx) (W' : WX), Gd t false k X' W' → GdS X' → X'.env = X.env → X'.N = X.N → PSs X' body (tSs c W' b))
    (hsu : ∀ (a : Addr) (cls : Value) (d : Option Addr) (oe : Obj) (pn : List (Addr × Obj)), L2N.Zn cls d oe → (∃ vs, oe.data = .fields vs) → PSs (X.suite a ((a, oe) :: pn)) (b0 :: suite) (tSs { c with xo := some (a, cls, d) } WN hd)) :
    PS X (.Try body [.ExceptHandler (some (.Name x np)) (some n) (b0 :: suite) pos'] [] [] pos) (tS c W (.try1 b x yes i n hd)) := by
  refine PS.mono (L2N.ps_try_as (tb := fun W' => tSs c W' b) (ts := fun a cls d => tSs { c with xo := some (a, cls, d) } WN hd) gs.hs gs.hf gd.nd hi (show X.env.kindOf n = some .local from hln) hc gd.tk
    (fun W' pn xe tk po => hb _ W' (gd_tr gd pn xe tk) (gds_tr gs pn xe po) rfl rfl) (fun a oe cls d pn z hv => hsu a cls d oe pn z hv)) fun D σ H hq => ?_
  obtain ⟨ρ, w, s, O, I, p⟩ := hq
  refine ⟨ρ, w, s, O, I, ?_⟩
  simp only [sv] at p
  revert p
  cases svs c.G.fl b ρ s with
  | nx ρ' s' => exact fun p => p
  | ret y s' => exact fun p => p
  | brk ρ' s' => exact fun p => p
  | cnt ρ' s' => exact fun p => p
  | stk => exact fun p => p
  | exc cn fs ρ2 s2 =>
    intro p cls dd σ' H' w' O' I' l e
    obtain ⟨C, d0, vs0, h1, rfl, h3, h4⟩ := id e
    refine ⟨yes cn, by rw [gd.K.trans T.hK]; exact hy cn C h1, fun hyes a na => ?_, fun hno => ?_⟩
    · simp only [hyes, if_true] at p
      refine ⟨_, w', s2, O', I'.toXc hxo i e, ?_⟩
      have p2 := PostS.le p l
      revert p2
      show PostS c W D O' H' w' ((svs c.G.fl hd (ρ2.set i (.xc cn fs)) s2).gone i) → PostS { c with xo := some (a, .ref C, dd) } WN _ O' H' w' (svs c.G.fl hd (ρ2.set i (.xc cn fs)) s2)
      cases svs c.G.fl hd (ρ2.set i (.xc cn fs)) s2 with
      | nx ρ3 s3 => exact fun p2 σ3 H3 w3 O3 I3 l3 => p2 _ H3 w3 O3 ((EI.noXc I3).no i none) l3
      | brk ρ3 s3 => exact fun p2 σ3 H3 w3 O3 I3 l3 => p2 _ H3 w3 O3 ((EI.noXc I3).no i none) l3
      | cnt ρ3 s3 => exact fun p2 σ3 H3 w3 O3 I3 l3 => p2 _ H3 w3 O3 ((EI.noXc I3).no i none) l3
      | ret y s3 => exact fun p2 => p2
      | exc cn' fs' ρ3 s3 => exact fun p2 => p2.elim
      | stk => exact fun p2 => p2
    · simp only [hno] at p
      exact (show ∀ cls dd σ' H' w' O', EI c ρ2 σ' H' w' s2 O' → Le O w H O' w' H' → ExcR c.G O' w' H' cn fs cls dd → W cls dd σ' H' from p) _ _ σ' H' w' O' I' l e
theorem s_try0 {body suite : List Stmt} {b0 : Stmt} {x : Str} {np pos pos' : Pos} {b hd : Sms J} {yes : Str → Bool} {cv : Value} (T : Tf t c.G) (gd : Gd t false k X W) (gs : GdS X) (hc : Names X x cv) (hy : YesOk c.G.K c.G cv yes)
    (hb : ∀ (X' : Cx) (W' : WX), Gd t false k X' W' → GdS X' → X'.env = X.env → X'.N = X.N → PSs X' body (tSs c W' b))
    (hsu : ∀ (a : Addr) (cls : Value) (d : Option Addr) (oe : Obj) (pn : List (Addr × Obj)), L2N.Zn cls d oe → (∃ vs, oe.data = .fields vs) → PSs (X.suite a ((a, oe) :: pn)) (b0 :: suite) (tSs c WN hd)) :
    PS X (.Try body [.ExceptHandler (some (.Name x np)) none (b0 :: suite) pos'] [] [] pos) (tS c W (.try0 b x yes hd)) := by
  refine PS.mono (L2N.ps_try_many (tb := fun W' => tSs c W' b) (l := [(cv, fun a cls d => tSs c WN hd)]) gs.hs gs.hf gd.tk
    (fun W' pn xe tk po => hb _ W' (gd_tr gd pn xe tk) (gds_tr gs pn xe po) rfl rfl) (.cons hc (fun a oe cls d pn z hv => hsu a cls d oe pn z hv) .nil)) fun D σ H hq => ?_
  obtain ⟨ρ, w, s, O, I, p⟩ := hq
  refine ⟨ρ, w, s, O, I, ?_⟩
  simp only [sv] at p
  revert p
  cases svs c.G.fl b ρ s with
  | nx ρ' s' => exact fun p => p
  | ret y s' => exact fun p => p
  | brk ρ' s' => exact fun p => p
  | cnt ρ' s' => exact fun p => p
  | stk => exact fun p => p
  | exc cn fs ρ2 s2 =>
    intro p cls dd σ' H' w' O' I' l e
    obtain ⟨C, d0, vs0, h1, rfl, h3, h4⟩ := id e
    refine ⟨yes cn, by rw [gd.K.trans T.hK]; exact hy cn C h1, fun hyes a na => ?_, fun hno => ?_⟩
    · simp only [hyes, if_true] at p
      refine ⟨ρ2, w', s2, O', I', ?_⟩
      have p2 := PostS.le p l
      revert p2
      cases svs c.G.fl hd ρ2 s2 with
      | nx ρ3 s3 => exact fun p2 => p2
      | brk ρ3 s3 => exact fun p2 => p2
      | cnt ρ3 s3 => exact fun p2 => p2
      | ret y s3 => exact fun p2 => p2
      | exc cn' fs' ρ3 s3 => exact fun p2 => p2.elim
      | stk => exact fun p2 => p2
    · simp only [hno] at p
      exact (show ∀ cls dd σ' H' w' O', EI c ρ2 σ' H' w' s2 O' → Le O w H O' w' H' → ExcR c.G O' w' H' cn fs cls dd → W cls dd σ' H' from p) _ _ σ' H' w' O' I' l e
/-- the suite's exception is read -/
theorem xr_suite {a : Addr} {cls : Value} {d : Option Addr} {oe : Obj} {pn : List (Addr × Obj)} (hK : X.K = c.G.K) (hX : ∀ cn C, c.G.xa cn = some C → XfC c.G.K C ∧ ∀ f ∈ c.G.fl cn, PySem.W.findIn c.G.K (.ref C) f = some none) (z : L2N.Zn cls d oe) (hv : ∃ vs, oe.data = .fields vs) :
    XR { c with xo := some (a, cls, d) } (X.suite a ((a, oe) :: pn)) := fun W rd i x f p pos hvb => ⟨fun pins s σ H Q I hq => by
  obtain ⟨ρ, w, s', O, I', q⟩ := hq
  simp only [ev] at q
  cases e : ρ[i]? with
  | none => rw [e] at q; exact q.elim
  | some sl =>
    rw [e] at q
    cases sl with
    | xc cn fs =>
      obtain ⟨a', cls', d', h1, h2, h3⟩ := I'.sl i _ e
      cases h1
      obtain ⟨C, dd, vs, k1, rfl, rfl, k4, k5, k6, k7⟩ := h3
      obtain ⟨xf, no⟩ := hX cn C k1
      simp only at q
      cases e1 : ixStr f (c.G.fl cn) with
      | none => simp only [e1, Option.bind_none, Option.map_none, liftO] at q; exact q.elim
      | some j =>
        cases e2 : fs[j]? with
        | none => simp only [e1, e2, Option.bind_some, Option.map_none, liftO] at q; exact q.elim
        | some dt =>
          simp only [e1, e2, Option.bind_some, Option.map_some, liftO] at q
          obtain ⟨v, hv2, rv⟩ := k7.get e2
          unfold varB at hvb
          simp only [Bool.and_eq_true, decide_eq_true_eq] at hvb
          obtain ⟨⟨⟨b1, b2⟩, b3⟩, b4⟩ := hvb
          have pv : PE (X.suite a ((a, oe) :: pn)) (.Name x p) (tVar i) := pe_var b1 (visB_vis b2) (beq_eq_false_iff_ne.mpr b3) (beq_eq_false_iff_ne.mpr b4)
          refine (pe_xf (X := X) (n := f) (pos := pos) (by rw [hK]; exact xf) (by rw [hK]; exact no f (ixStr_mem e1)) (L2N.Zn.zc z) hv pv rfl).run pins s σ H Q I ?_
          exact ⟨.ref a, h2, rfl, rfl, dd, _, v, rfl, k4, zip_lookup e1 hv2, Post.okS q I'.jok (rv.rp rd) rfl⟩
    | _ => exact q.elim⟩
/-- a box's item is put -/
def SetOk (T : Jt J) (G : Gs) (set : J → Int → D → Option J) : Prop := ∀ {O : Addr → Prop} {w : Ws} {H : Hp} {a : Addr} {j j' : J} {fp : List Addr} {i : Int} {d : D} {v : V}, T.rep (Ban O w) H a j fp → a ∈ fp → w.inJ a → set j i d = some j' → Rep G O w H d v →
  ∃ vs n, H a = some (.lst vs) ∧ ixN vs.length i = some n ∧ T.rep (Ban O w) (upd H a (.lst (vs.set n v))) a j' fp
theorem s_bset {a i e : Expr} {x y z : E J} {set : J → Int → D → Option J} {p pos : Pos} (S : SetOk c.T c.G set) (hi1 : plE i = true) (he : PE X e (tE c W false z)) (ha : PE X a (tE c W true x)) (hi : PE X i (tE c W false y)) :
    PS X (.Assign [.Subscript a i p] e pos) (tS c W (.bset set x y z)) := by
  refine PS.mono (ps_asg he (pg_sub ha hi set_list (by intro v; cases i <;> first | rfl | cases hi1)) (by cases e <;> rfl) (by cases e <;> rfl) rfl) fun D σ H hq => ?_
  obtain ⟨ρ, w, s, O, I, q⟩ := hq
  simp only [sv] at q
  refine ⟨ρ, w, s, O, I, S_then I q fun yv s1 v H1 w1 I1 g1 r1 _ q1 => ⟨ρ, w1, s1, O, I1, S_then I1 q1 fun xv s2 u H2 w2 I2 g2 r2 _ q2 => ?_⟩⟩
  suffices q3 : PostT c.T c.G W σ O H2 w2 (intOf (ev c.G.fl false y ρ s2)) (fun iv H3 => rSetL u (.int iv) v H3 fun H4 => D.nx σ H4) by
    refine ⟨ρ, w2, s2, O, I2, ?_⟩
    have q4 := Post.toI (rd := false) q3
    revert q4
    cases ev c.G.fl false y ρ s2 with
    | ok yy s' =>
      intro q4 vv H' w' g rp ow
      obtain ⟨kk, rfl, h⟩ := q4 vv H' w' g rp ow
      exact h
    | exc cn fs s' => exact fun q4 => q4
    | stk => exact fun q4 => q4
  refine S_thenT I2 q2 fun iv s3 H3 w3 I3 g3 q3 => ?_
  · obtain ⟨xd, xu⟩ := xv
    cases xd with
    | box n =>
      simp only at q3
      cases e1 : (s3[n]?).bind fun j => set j iv yv.1 with
      | none => rw [e1] at q3; exact q3.elim
      | some j' =>
        rw [e1] at q3
        simp only at q3
        obtain ⟨j, hj, hset⟩ := Option.bind_eq_some_iff.mp e1
        obtain ⟨ad, had, rfl⟩ := (r2.non fun _ z => nomatch z)
        have had3 := g3.hb _ _ had
        obtain ⟨fp, hfp, rp⟩ := I3.jok.box had3 hj
        have hin : w3.inJ ad := ⟨fp, List.mem_of_getElem? hfp, (c.T.has rp).1⟩
        obtain ⟨vs, m, hv, hix, rp2⟩ := S rp (c.T.has rp).1 hin hset ((r1.rep.le g2.le).le g3.le)
        refine ⟨ad, vs, iv, m, rfl, rfl, hv, hix, ?_⟩
        have hn : n < s3.length := (List.getElem?_eq_some_iff.mp hj).1
        have jk : JOk c.T O (upd H3 ad (.lst (vs.set m v))) w3 (s3.set n j') := by
          refine ⟨by rw [List.length_set]; exact I3.jok.l1, by rw [List.length_set]; exact I3.jok.l2, fun l b fq jj h1 h2 h3 => ?_, I3.jok.ap⟩
          by_cases hl : n = l
          · subst hl
            rw [List.getElem?_set_self hn] at h3
            cases h3
            rw [had3] at h1; cases h1
            rw [hfp] at h2; cases h2
            exact rp2
          · rw [List.getElem?_set_ne hl] at h3
            refine c.T.fr (I3.jok.at_ l b fq jj h1 h2 h3) (fun bb o e n => ⟨by rw [upd_ne (show bb ≠ ad from fun q => n (.inr (by rw [q]; exact hin)))]; exact e, n⟩) fun bb hbb => ?_
            rw [upd_ne]
            intro q
            subst q
            exact hl (I3.jok.ap n l fp fq _ hfp h2 (c.T.has rp).1 hbb)
        have gg : Go c.T O H3 w3 (upd H3 ad (.lst (vs.set m v))) w3 (s3.set n j') := by
          refine ⟨fun _ _ h => h, fun b o e n => ?_, fun b e => ?_, fun _ h => .inl h, fun _ h => .inl h, jk⟩
          · rw [upd_ne (show b ≠ ad from fun q => n (by rw [q]; exact hin))]; exact e
          · by_cases q : b = ad
            · rw [q, upd_same]; exact fun z => nomatch z
            · rw [upd_ne q]; exact e
        exact q3 σ _ w3 O (I3.step gg) gg.le
    | _ => exact q3.elim
end
end DL

set_option Elab.async false
set_option linter.all false
set_option maxRecDepth 100000
set_option maxHeartbeats 8000000
/-! The data layer, part r: every statement; a def's body; a def's promise. -/
namespace DL
open PySem PySem.Spec PyProof.Rows L2
variable {J : Type}

def lcB (sc : Scope) (x : Str) (p : Pos) : Expr → Bool
  | .ListComp _ _ scope pos => lclB sc x && (p.line == pos.line) && !(scope.names.any fun (n, k) => n == x && (k == .local || k == .cell))
  | _ => false
def notTup : Expr → Bool
  | .Tuple _ _ _ => false
  | _ => true
def asgB (h : Bool) (sc : Scope) : Tg → Expr → Expr → Bool
  | .nm _ x, .Name _ p, v => notLc v || (!h && lcB sc x p v)
  | .tp _, _, v => !h && notTup v && notLc v
  | _, _, _ => false
def parB (sc : Scope) (i : Nat) (x : Str) (px : Pos) (j : Nat) (y : Str) (py : Pos) (a b : Expr) : Bool :=
  decide (i ≠ j) && lclB sc x && lclB sc y && decide (x ≠ y) && (py.line == px.line) && plE a && plE b && !([a, b].all (foldedForSure 8)) && !([a, b].all (constantsAlone 8))
def isR1 : E J → Bool
  | .rng1 _ => true
  | _ => false
def parM (h : Bool) (sc : Scope) (N : List Str) (i : Nat) (x : Str) (j : Nat) (y : Str) (es : Es J) : List Expr → Expr → Bool
  | [.Tuple [.Name x' px, .Name y' py] _ _], .Tuple [a, b] _ _ => !h && decide (x = x') && decide (y = y') && decide (N[i]? = some x) && decide (N[j]? = some y) && parB sc i x px j y py a b && mts h sc N es [a, b]
  | _, _ => false
def bsetM (h : Bool) (sc : Scope) (N : List Str) (a k e : E J) : List Expr → Expr → Bool
  | [.Subscript x y _], v => mt h false sc N a x && mt h false sc N k y && mt h false sc N e v
  | _, _ => false
mutual
def mS (h : Bool) (sc : Scope) (N : List Str) : Sm J → Stmt → Bool
  | .asg t e, .Assign [tg] v _ => mt h false sc N e v && mtT sc N t tg && asgB h sc t tg v
  | .par i x j y es, .Assign tgs v _ => parM h sc N i x j y es tgs v
  | .exp e, .Expr v _ => mt h false sc N e v && notLc v
  | .ret e, .Return (some v) _ => mt h false sc N e v
  | .ite c a b, .If x p q _ => tstOk c && mt h false sc N c x && mSs h sc N a p && mSs h sc N b q
  | .loop t it b, .For tg ix body [] _ => mtT sc N t tg && mt h true sc N it ix && mSs h sc N b body && (!h || (isR1 it && (match t with | .nm _ _ => true | _ => false)))
  | .whl _ c b, .While x body [] _ => tstOk c && mt h false sc N c x && mSs h sc N b body
  | .brk, .Break _ => true
  | .cnt, .Continue _ => true
  | .pas, .Pass _ => true
  | .pas, .Expr (.Constant (.str _) _ _) _ => true
  | .rse x es, .Raise (some (.Call (.Name y _) as [] _)) none _ => !h && decide (x = y) && glB sc x && mts h sc N es as && decide (0 < es.len)
  | .try1 b x _ i n hd, .Try body [.ExceptHandler (some (.Name x' _)) (some n') (s0 :: suite) _] [] [] _ => !h && decide (x = x') && decide (n = n') && glB sc x && decide (N[i]? = some n) && lclB sc n && mSs false sc N b body && mSs true sc N hd (s0 :: suite)
  | .try0 b x _ hd, .Try body [.ExceptHandler (some (.Name x' _)) none (s0 :: suite) _] [] [] _ => !h && decide (x = x') && glB sc x && mSs false sc N b body && mSs true sc N hd (s0 :: suite)
  | .bset _ a k e, .Assign tgs v _ => bsetM h sc N a k e tgs v
  | _, _ => false
def mSs (h : Bool) (sc : Scope) (N : List Str) : Sms J → List Stmt → Bool
  | .nil, [] => true
  | .cons a r, s :: ss => mS h sc N a s && mSs h sc N r ss
  | _, _ => false
end
/-- what is asked of the callees and so on -/
structure Ask (J : Type) where
  P : Bool → Sg → Fn J → Prop
  R : (J → List D) → Prop
  S : (J → Int → D → Option J) → Prop
  RS : Str → Nat → Prop
  Y : Str → (Str → Bool) → Prop
mutual
def sOk (A : Ask J) : Bool → Sm J → Prop
  | h, .asg _ e => eOk (A.P h) A.R e
  | h, .par _ _ _ _ es => esOk (A.P h) A.R es
  | h, .exp e => eOk (A.P h) A.R e
  | h, .ret e => eOk (A.P h) A.R e
  | h, .ite c a b => eOk (A.P h) A.R c ∧ ssOk A h a ∧ ssOk A h b
  | h, .loop _ it b => eOk (A.P h) A.R it ∧ ssOk A h b
  | h, .whl _ c b => eOk (A.P h) A.R c ∧ ssOk A h b
  | _, .brk => True
  | _, .cnt => True
  | _, .pas => True
  | h, .rse x es => esOk (A.P h) A.R es ∧ A.RS x es.len
  | h, .try1 b x yes _ _ hd => ssOk A h b ∧ A.Y x yes ∧ ssOk A true hd
  | h, .try0 b x yes hd => ssOk A h b ∧ A.Y x yes ∧ ssOk A true hd
  | h, .bset set a k e => eOk (A.P h) A.R a ∧ eOk (A.P h) A.R k ∧ eOk (A.P h) A.R e ∧ A.S set
  | _, _ => False
def ssOk (A : Ask J) : Bool → Sms J → Prop
  | _, .nil => True
  | h, .cons a r => sOk A h a ∧ ssOk A h r
  | _, .rel _ _ => False
end
/-- the asking that is answered here -/
def askOf (t : Tx) (k : Nat) (T : Jt J) (G : Gs) : Ask J where
  P := fun h f g => ClOk t h k T G f g
  R := GetOk T G
  S := SetOk T G
  RS := fun x n => RsOk t k G x n
  Y := fun x yes => ∃ cv, t.mg x = some cv ∧ YesOk G.K G cv yes
section
variable {t : Tx} {h : Bool} {k : Nat} {c : Cf J} {X : Cx} {W : WX}
theorem sw_par {x y : Str} {i j : Nat} {px py pt pt2 : Pos} {kt k2 : Nat} {a b : Expr} (gs : GdS X) (m : parB X.env.scope i x px j y py a b = true) : swappedStores [.Tuple [.Name x px, .Name y py] kt pt] (.Tuple [a, b] k2 pt2) X.env = pure (some [x, y]) := by
  unfold parB at m
  simp only [Bool.and_eq_true, decide_eq_true_eq, Bool.not_eq_true'] at m
  obtain ⟨⟨⟨⟨⟨⟨⟨⟨m1, m2⟩, m3⟩, m4⟩, m5⟩, m6⟩, m7⟩, m8⟩, m9⟩ := m
  have bk : X.env.blockKind = .function := by unfold PySem.Env.blockKind; rw [gs.kind]; rfl
  have kx : X.env.kindOf x = some .local := lclB_lcl m2
  have ky : X.env.kindOf y = some .local := lclB_lcl m3
  have st : ∀ e : Expr, plE e = true → (match e with | .Starred .. => true | _ => false) = false := fun e he => by cases e <;> first | rfl | cases he
  have hxy : (x == y) = false := beq_eq_false_iff_ne.mpr m4
  have hyx : (y == x) = false := beq_eq_false_iff_ne.mpr fun e => m4 e.symm
  have hs : ([a, b].any fun | .Starred .. => true | _ => false) = false := by
    simp only [List.any_cons, List.any_nil, Bool.or_false]
    cases a <;> first | (cases b <;> first | rfl | (cases m7; done)) | (cases m6; done)
  unfold swappedStores
  simp only [bk, hs, m8, m9, kx, ky, m5, List.head?_cons, Option.map_some, Option.getD_some, List.filterMap_cons, List.filterMap_nil, Bool.true_and, beq_self_eq_true, if_true, List.length_cons, List.length_nil, Bool.and_self, if_false, Bool.false_eq_true, Bool.or_false]
  have e1 : ([x, y] : List Str).eraseDups = [x, y] := by
    simp [List.eraseDups_cons, hyx, hxy]
  rw [if_neg (by decide), if_neg (fun z => Bool.noConfusion (z.symm.trans hs))]
  have hp : (py.line == (Expr.Name x px).pos.line) = true := m5
  have hq : (px.line == (Expr.Name x px).pos.line) = true := beq_self_eq_true _
  simp only [hp, hq, if_true, e1, m8, m9, List.length_cons, List.length_nil, bne_self_eq_false, Bool.or_self, Bool.false_eq_true, if_false]
end
end DL

set_option Elab.async false
set_option linter.all false
set_option maxRecDepth 100000
set_option maxHeartbeats 8000000
/-! The data layer, part s: all statements. -/
namespace DL
open PySem PySem.Spec PyProof.Rows L2
variable {J : Type}
structure Tff (t : Tx) (G : Gs) : Prop extends Tf t G where
  hX : ∀ cn C, G.xa cn = some C → XfC G.K C ∧ ∀ f ∈ G.fl cn, PySem.W.findIn G.K (.ref C) f = some none
def SOk (t : Tx) (h : Bool) (k : Nat) (c : Cf J) (st : Sm J) : Prop := ∀ (X : Cx) (W : WX) (a : Stmt), Gd t h k X W → GdS X → XR c X → mS h X.env.scope X.N st a = true → PS X a (tS c W st)
def SsOk (t : Tx) (h : Bool) (k : Nat) (c : Cf J) (st : Sms J) : Prop := ∀ (X : Cx) (W : WX) (as : List Stmt), Gd t h k X W → GdS X → XR c X → mSs h X.env.scope X.N st as = true → PSs X as (tSs c W st)
section
variable {t : Tx} {h : Bool} {k : Nat} {c : Cf J} {x y z : E J} {es : Es J} {b q hd : Sms J}
theorem pgN {X : Cx} {tt : Tg} {tg : Expr} (hN : X.N.Nodup) (gs : GdS X) (hh : h = true → ∃ i y, tt = .nm i y) (hc : h = false → X.calm = true) (m : mtT X.env.scope X.N tt tg = true) : PG X tg (gTg X.K tt) := by
  cases h with
  | false => exact mtT_pg (hc rfl) hN (fun x hx => ⟨locB_loc hx, .inl (gs.fn x)⟩) m
  | true =>
    obtain ⟨i, y, rfl⟩ := hh rfl
    cases tg with
    | Name z p =>
      simp only [mtT, Bool.and_eq_true, decide_eq_true_eq] at m
      obtain ⟨⟨rfl, m1⟩, m2⟩ := m
      exact pg_name hN m1 (locB_loc m2) (.inl (gs.fn _))
    | _ => simp [mtT] at m
theorem sk_asg (T : Tff t c.G) (hxo : h = false → c.xo = none) (tt : Tg) (hx : EOk t h k c x) (ho : eOk (fun f g => ClOk t h k c.T c.G f g) (GetOk c.T c.G) x) : SOk t h k c (.asg tt x) := by
  intro X W a gd gs xr m
  cases a with
  | Assign tgs v pos =>
    cases tgs with
    | nil => (exfalso; revert m; simp [mS])
    | cons tg r =>
      cases r with
      | cons _ _ => (exfalso; revert m; simp [mS])
      | nil =>
        simp only [mS, Bool.and_eq_true] at m
        obtain ⟨⟨m1, m2⟩, m3⟩ := m
        cases tt with
        | tp l =>
          simp only [asgB, Bool.and_eq_true, Bool.not_eq_true'] at m3
          obtain ⟨⟨n1, n2⟩, n3⟩ := m3
          subst n1
          have pg := pgN (h := false) gd.nd gs (fun z => nomatch z) (fun _ => (gd.cold rfl).1) m2
          cases tg with
          | Tuple ts kk tp =>
            refine s_asg (gd.K.trans T.hK) (hx.pe X W false v gd xr m1) pg (by unfold swapsWithSole; exact pl_swaps (mt_pl m1) n3 _ _) ?_ rfl
            cases v <;> first | rfl | (cases n2; done)
          | _ => simp [mtT] at m2
        | nm i y =>
          have pg := pgN (h := h) gd.nd gs (fun _ => ⟨i, y, rfl⟩) (fun e => by subst e; exact (gd.cold rfl).1) m2
          cases tg with
          | Name z p =>
            simp only [asgB, Bool.or_eq_true, Bool.and_eq_true, Bool.not_eq_true'] at m3
            rcases m3 with m3 | ⟨n1, n2⟩
            · refine s_asg (gd.K.trans T.hK) (hx.pe X W false v gd xr m1) pg (by unfold swapsWithSole; exact pl_swaps (mt_pl m1) m3 _ _) ?_ rfl
              cases v <;> rfl
            · subst n1
              cases v with
              | ListComp el gens scope cpos =>
                simp only [lcB, Bool.and_eq_true, Bool.not_eq_true'] at n2
                obtain ⟨⟨k1, k2⟩, k3⟩ := n2
                simp only [mtT, Bool.and_eq_true, decide_eq_true_eq] at m2
                obtain ⟨⟨rfl, w1⟩, w2⟩ := m2
                cases x <;> try (simp [mt] at m1; done)
                rename_i el' tt' it' cs' own'
                cases gens with
                | nil => simp [mt] at m1
                | cons g1 gr =>
                  cases gr with
                  | cons _ _ => simp [mt] at m1
                  | nil =>
                    obtain ⟨tg1, ix, ifs, az⟩ := g1
                    simp only [mt, Bool.and_eq_true, decide_eq_true_eq] at m1
                    obtain ⟨⟨⟨⟨⟨⟨⟨⟨q0, q1⟩, q2⟩, q3⟩, q4⟩, q5⟩, q6⟩, q7⟩, q8⟩ := m1
                    subst q1
                    simp only [eOk] at ho
                    have hel := e_all (h := false) T.toTf hxo el' ho.1
                    have hit := e_all (h := false) T.toTf hxo it' ho.2.1
                    have hcs := es_all (h := false) T.toTf hxo cs' ho.2.2
                    obtain ⟨b1, b2, b3⟩ := lc_blk (X := X) (W := W) hel hcs (hxo rfl) gd q3 q5 q6 q7
                    refine PS.mono (ps_setLc (gd.cold rfl).1 gd.nd w1 (lclB_lcl k1) (sw_true gs.kind (lclB_lcl k1) k2 k3) (hit.pi X W true tg1 ix rfl gd xr q8) (blkOk_by q2) b1 b2 b3 (pl_folded (mt_pl q8))) fun D σ H hq => ?_
                    obtain ⟨ρ, w, s, O, I, p⟩ := hq
                    simp only [sv] at p
                    refine lc_read (c := c) (W := W) (rd := false) (gd.K.trans T.hK) q4 ⟨ρ, w, s, O, I, S_then I p fun yy s1 v H1 w1 I1 g1 r1 _ p1 => ?_⟩
                    exact p1 _ H1 w1 O (I1.set i r1.rep) Le.refl
              | _ => cases n2
          | _ => simp [mtT] at m2
  | _ => (exfalso; revert m; simp [mS])
theorem sk_par (i : Nat) (u : Str) (j : Nat) (v : Str) (hs : EsOk t h k c es) : SOk t h k c (.par i u j v es) := by
  intro X W a gd gs xr m
  cases a with
  | Assign tgs va pos =>
    simp only [mS] at m
    cases tgs with
    | nil => simp [parM] at m
    | cons tg r =>
      cases r with
      | cons _ _ => simp [parM] at m
      | nil =>
        cases tg with
        | Tuple ts kk tp =>
          cases ts with
          | nil => simp [parM] at m
          | cons t1 ts =>
            cases t1 with
            | Name x' px =>
              cases ts with
              | nil => simp [parM] at m
              | cons t2 ts =>
                cases t2 with
                | Name y' py =>
                  cases ts with
                  | cons _ _ => simp [parM] at m
                  | nil =>
                    cases va with
                    | Tuple vs k2 vp =>
                      cases vs with
                      | nil => simp [parM] at m
                      | cons v1 vs =>
                        cases vs with
                        | nil => simp [parM] at m
                        | cons v2 vs =>
                          cases vs with
                          | cons _ _ => simp [parM] at m
                          | nil =>
                            simp only [parM, Bool.and_eq_true, decide_eq_true_eq, Bool.not_eq_true'] at m
                            obtain ⟨⟨⟨⟨⟨⟨m0, rfl⟩, rfl⟩, m3⟩, m4⟩, m5⟩, m6⟩ := m
                            subst m0
                            have m5' := m5
                            unfold parB at m5'
                            simp only [Bool.and_eq_true, decide_eq_true_eq, Bool.not_eq_true'] at m5'
                            obtain ⟨⟨⟨⟨⟨⟨⟨⟨n1, n2⟩, n3⟩, n4⟩, _⟩, _⟩, _⟩, _⟩, _⟩ := m5'
                            exact s_par (gd.cold rfl).1 gd.nd m3 m4 n1 (lclB_lcl n2) (lclB_lcl n3) (hs.pa X W false _ gd xr m6) (sw_par gs m5)
                    | _ => simp [parM] at m
                | _ => simp [parM] at m
            | _ => simp [parM] at m
        | _ => simp [parM] at m
  | _ => (exfalso; revert m; simp [mS])
theorem sk_exp (hx : EOk t h k c x) : SOk t h k c (.exp x) := by
  intro X W a gd gs xr m
  cases a with
  | Expr v pos =>
    simp only [mS, Bool.and_eq_true] at m
    exact s_exp (hx.pe X W false v gd xr m.1) (mt_pl m.1) m.2
  | _ => (exfalso; revert m; simp [mS])
theorem sk_ret (hx : EOk t h k c x) : SOk t h k c (.ret x) := by
  intro X W a gd gs xr m
  cases a with
  | Return v pos =>
    cases v with
    | none => (exfalso; revert m; simp [mS])
    | some v =>
      simp only [mS] at m
      exact s_ret (hx.pe X W false v gd xr m)
  | _ => (exfalso; revert m; simp [mS])
theorem sk_ite (hx : EOk t h k c x) (ha : SsOk t h k c b) (hb : SsOk t h k c q) : SOk t h k c (.ite x b q) := by
  intro X W a gd gs xr m
  cases a with
  | If v p p2 pos =>
    simp only [mS, Bool.and_eq_true] at m
    obtain ⟨⟨⟨m1, m2⟩, m3⟩, m4⟩ := m
    exact s_ite (hx.pt X W v gd xr m2 m1) (ha X W p gd gs xr m3) (hb X W p2 gd gs xr m4)
  | _ => (exfalso; revert m; simp [mS])
theorem sk_whl (fuel : Env → Nat) (hx : EOk t h k c x) (ha : SsOk t h k c b) : SOk t h k c (.whl fuel x b) := by
  intro X W a gd gs xr m
  cases a with
  | While v p p2 pos =>
    cases p2 with
    | cons _ _ => (exfalso; revert m; simp [mS])
    | nil =>
      simp only [mS, Bool.and_eq_true] at m
      obtain ⟨⟨m1, m2⟩, m3⟩ := m
      exact s_whl gs.po (hx.pt X W v gd xr m2 m1) (ha X W p gd gs xr m3)
  | _ => (exfalso; revert m; simp [mS])
theorem sk_brk : SOk t h k c (.brk : Sm J) := by
  intro X W a gd gs xr m
  cases a with
  | Break pos => exact s_brk
  | _ => (exfalso; revert m; simp [mS])
theorem sk_cnt : SOk t h k c (.cnt : Sm J) := by
  intro X W a gd gs xr m
  cases a with
  | Continue pos => exact s_cnt
  | _ => (exfalso; revert m; simp [mS])
theorem sk_pas : SOk t h k c (.pas : Sm J) := by
  intro X W a gd gs xr m
  cases a with
  | Pass pos => exact s_pas
  | Expr v pos =>
    cases v with
    | Constant cv kk cp =>
      cases cv with
      | str z => exact s_doc
      | _ => (exfalso; revert m; simp [mS])
    | _ => (exfalso; revert m; simp [mS])
  | _ => (exfalso; revert m; simp [mS])
theorem sk_loop (T : Tff t c.G) (tt : Tg) (hx : EOk t h k c x) (ho : h = true → ∀ y, x = .rng1 y → EOk t h k c y) (ha : SsOk t h k c b) : SOk t h k c (.loop tt x b) := by
  intro X W a gd gs xr m
  cases a with
  | For tg ix body p2 pos =>
    cases p2 with
    | cons _ _ => (exfalso; revert m; simp [mS])
    | nil =>
      simp only [mS, Bool.and_eq_true, Bool.or_eq_true, Bool.not_eq_true'] at m
      obtain ⟨⟨⟨m1, m2⟩, m3⟩, m4⟩ := m
      have hb := ha X W body gd gs xr m3
      cases h with
      | false =>
        have pg := pgN (h := false) gd.nd gs (fun z => nomatch z) (fun _ => (gd.cold rfl).1) m1
        exact s_loop (gd.K.trans T.hK) pg hb (ps_for gs.po (gd.cold rfl).1 (hx.pi X W false tg ix rfl gd xr m2) pg hb (pl_folded (mt_pl m2)))
      | true =>
        rcases m4 with m4 | ⟨n1, n2⟩
        · cases m4
        · cases tt with
          | tp l => cases n2
          | nm i y =>
            have pg := pgN (h := true) gd.nd gs (fun _ => ⟨i, y, rfl⟩) (fun z => nomatch z) m1
            cases x <;> try (cases n1; done)
            rename_i y1
            have hy := ho rfl y1 rfl
            have hf := pl_folded (env := X.env) (mt_pl m2)
            cases ix with
            | Call fn as ks cp =>
              cases fn with
              | Name yn yp =>
                cases as with
                | nil => simp [mt] at m2
                | cons a1 r =>
                  cases r with
                  | cons _ _ => simp [mt] at m2
                  | nil =>
                    cases ks with
                    | cons _ _ => simp [mt] at m2
                    | nil =>
                      simp only [mt, Bool.and_eq_true, decide_eq_true_eq] at m2
                      obtain ⟨⟨⟨_, rfl⟩, u1⟩, u2⟩ := m2
                      have pe := hy.pe X W false a1 gd xr u2
                      have pih : L2H.PIH X tg (.Call (.Name "range" yp) [a1] [] cp) (tI c W false (.rng1 y1)) := by
                        have base := L2H.pi_range1H (tg := tg) (p := yp) (pos := cp) (glG u1) (by rw [gd.mg]; exact T.bi _ (by decide)) (pa_cons pe pa_nil (pl_star (mt_pl u2) _)) (pl_star (mt_pl u2) _)
                        exact ⟨fun pins s σ H R I hq => base.run pins s σ H R I (rng1_read hq)⟩
                      exact s_loop (gd.K.trans T.hK) pg hb (L2H.ps_forH gs.po (gd.hot rfl).1 pih pg hb hf)
              | _ => simp [mt] at m2
            | _ => simp [mt] at m2
  | _ => (exfalso; revert m; simp [mS])
theorem sk_rse (u : Str) (hs : EsOk t h k c es) (R : RsOk t k c.G u es.len) : SOk t h k c (.rse u es) := by
  intro X W a gd gs xr m
  cases a with
  | Raise e cz pos =>
    cases cz with
    | some _ => cases e with
      | none => (exfalso; revert m; simp [mS])
      | some e => cases e with
        | Call fn as ks cp => cases fn with
          | Name yn yp => cases ks <;> (exfalso; revert m; simp [mS])
          | _ => (exfalso; revert m; simp [mS])
        | _ => (exfalso; revert m; simp [mS])
    | none =>
      cases e with
      | none => (exfalso; revert m; simp [mS])
      | some e =>
        cases e with
        | Call fn as ks cp =>
          cases fn with
          | Name yn yp =>
            cases ks with
            | cons _ _ => (exfalso; revert m; simp [mS])
            | nil =>
              simp only [mS, Bool.and_eq_true, decide_eq_true_eq, Bool.not_eq_true'] at m
              obtain ⟨⟨⟨⟨m0, rfl⟩, m1⟩, m2⟩, m3⟩ := m
              subst m0
              obtain ⟨q1, q2⟩ := mts_pl m2
              cases as with
              | nil => simp at q1; omega
              | cons a1 as => exact s_rse R gd m1 (q2 a1 List.mem_cons_self) (fun b hb => q2 b (List.mem_cons_of_mem _ hb)) (by simp at q1; omega) rfl (hs.pa X W false _ gd xr m2)
          | _ => (exfalso; revert m; simp [mS])
        | _ => (exfalso; revert m; simp [mS])
  | _ => (exfalso; revert m; simp [mS])
theorem sk_bset (set : J → Int → D → Option J) (hS : SetOk c.T c.G set) (hx : EOk t h k c x) (hy : EOk t h k c y) (hz : EOk t h k c z) : SOk t h k c (.bset set x y z) := by
  intro X W a gd gs xr m
  cases a with
  | Assign tgs v pos =>
    simp only [mS] at m
    cases tgs with
    | nil => simp [bsetM] at m
    | cons tg r =>
      cases r with
      | cons _ _ => simp [bsetM] at m
      | nil =>
        cases tg with
        | Subscript p i sp =>
          simp only [bsetM, Bool.and_eq_true] at m
          obtain ⟨⟨m1, m2⟩, m3⟩ := m
          exact s_bset hS (mt_pl m2) (hz.pe X W false v gd xr m3) (hx.pe X W true p gd xr m1) (hy.pe X W false i gd xr m2)
        | _ => simp [bsetM] at m
  | _ => (exfalso; revert m; simp [mS])
theorem sk_try1 (T : Tff t c.G) (hxo : h = false → c.xo = none) (u : Str) (yes : Str → Bool) (i : Nat) (n : Str) (hY : ∃ cv, t.mg u = some cv ∧ YesOk c.G.K c.G cv yes) (hb : SsOk t h k c b) (hh : ∀ xo, SsOk t true k { c with xo := xo } hd) : SOk t h k c (.try1 b u yes i n hd) := by
  intro X W a gd gs xr m
  cases a with
  | Try body hds oe fi pos =>
    cases hds with
    | nil => (exfalso; revert m; simp [mS])
    | cons h1 hr =>
      obtain ⟨ty, nm, su, hp⟩ := h1
      cases ty with
      | none => (exfalso; revert m; simp [mS])
      | some ty =>
        cases ty with
        | Name x' np =>
          cases nm with
          | none => (exfalso; revert m; simp [mS])
          | some n' =>
            cases su with
            | nil => (exfalso; revert m; simp [mS])
            | cons s0 su =>
              cases hr with
              | cons _ _ => (exfalso; revert m; simp [mS])
              | nil =>
                cases oe with
                | cons _ _ => (exfalso; revert m; simp [mS])
                | nil =>
                  cases fi with
                  | cons _ _ => (exfalso; revert m; simp [mS])
                  | nil =>
                    simp only [mS, Bool.and_eq_true, decide_eq_true_eq, Bool.not_eq_true'] at m
                    obtain ⟨⟨⟨⟨⟨⟨⟨m0, rfl⟩, rfl⟩, m3⟩, m4⟩, m5⟩, m6⟩, m7⟩ := m
                    subst m0
                    obtain ⟨cv, y1, y2⟩ := hY
                    refine s_try1 T.toTf (hxo rfl) gd gs m4 (lclB_lcl m5) ⟨glG m3, (glB_gl m3).2, .inl (by rw [gd.mg]; exact y1)⟩ y2 (fun X' W' gd' gs' e1 e2 => ?_) fun a cls d oe pn z hv => ?_
                    · exact hb X' W' body gd' gs' (xr_none (hxo rfl)) (by rw [e1, e2]; exact m6)
                    · exact hh _ _ _ _ (gd_suite gd pn z hv) (gds_suite gs a _) (xr_suite (gd.K.trans T.hK) T.hX z hv) m7
        | _ => (exfalso; revert m; simp [mS])
  | _ => (exfalso; revert m; simp [mS])
theorem sk_try0 (T : Tff t c.G) (hxo : h = false → c.xo = none) (u : Str) (yes : Str → Bool) (hY : ∃ cv, t.mg u = some cv ∧ YesOk c.G.K c.G cv yes) (hb : SsOk t h k c b) (hh : SsOk t true k c hd) : SOk t h k c (.try0 b u yes hd) := by
  intro X W a gd gs xr m
  cases a with
  | Try body hds oe fi pos =>
    cases hds with
    | nil => (exfalso; revert m; simp [mS])
    | cons h1 hr =>
      obtain ⟨ty, nm, su, hp⟩ := h1
      cases ty with
      | none => (exfalso; revert m; simp [mS])
      | some ty =>
        cases ty with
        | Name x' np =>
          cases nm with
          | some n' => (exfalso; revert m; simp [mS])
          | none =>
            cases su with
            | nil => (exfalso; revert m; simp [mS])
            | cons s0 su =>
              cases hr with
              | cons _ _ => (exfalso; revert m; simp [mS])
              | nil =>
                cases oe with
                | cons _ _ => (exfalso; revert m; simp [mS])
                | nil =>
                  cases fi with
                  | cons _ _ => (exfalso; revert m; simp [mS])
                  | nil =>
                    simp only [mS, Bool.and_eq_true, decide_eq_true_eq, Bool.not_eq_true'] at m
                    obtain ⟨⟨⟨⟨m0, rfl⟩, m3⟩, m6⟩, m7⟩ := m
                    subst m0
                    obtain ⟨cv, y1, y2⟩ := hY
                    refine s_try0 T.toTf gd gs ⟨glG m3, (glB_gl m3).2, .inl (by rw [gd.mg]; exact y1)⟩ y2 (fun X' W' gd' gs' e1 e2 => ?_) fun a cls d oe pn z hv => ?_
                    · exact hb X' W' body gd' gs' (xr_none (hxo rfl)) (by rw [e1, e2]; exact m6)
                    · exact hh _ _ _ (gd_suite gd pn z hv) (gds_suite gs a _) (xr_none (hxo rfl)) m7
        | _ => (exfalso; revert m; simp [mS])
  | _ => (exfalso; revert m; simp [mS])
end
end DL

set_option Elab.async false
set_option linter.all false
set_option maxRecDepth 100000
set_option maxHeartbeats 8000000
/-! The data layer, part t: a def's promise from its small text. -/
namespace DL
open PySem PySem.Spec PyProof.Rows L2
variable {J : Type}
theorem ss_nil' {t : Tx} {h : Bool} {k : Nat} {c : Cf J} : SsOk t h k c (.nil : Sms J) := by
  intro X W as gd gs xr m
  cases as with
  | nil => exact ss_nil
  | cons _ _ => exact absurd m (by simp [mSs])
theorem ss_cons' {t : Tx} {h : Bool} {k : Nat} {c : Cf J} {a : Sm J} {r : Sms J} (ha : SOk t h k c a) (hr : SsOk t h k c r) : SsOk t h k c (.cons a r) := by
  intro X W as gd gs xr m
  cases as with
  | nil => exact absurd m (by simp [mSs])
  | cons s ss =>
    simp only [mSs, Bool.and_eq_true] at m
    exact ss_cons (ha X W s gd gs xr m.1) (hr X W ss gd gs xr m.2)
section
variable {t : Tx} {k : Nat}
mutual
theorem s_all : ∀ (st : Sm J) (h : Bool) (c : Cf J), Tff t c.G → (h = false → c.xo = none) → sOk (askOf t k c.T c.G) h st → SOk t h k c st
  | .asg tt e, h, c, T, xo, q => sk_asg T xo tt (e_all T.toTf xo e (by simp only [sOk] at q; exact q)) (by simp only [sOk] at q; exact q)
  | .par i x j y es, h, c, T, xo, q => sk_par i x j y (es_all T.toTf xo es (by simp only [sOk] at q; exact q))
  | .exp e, h, c, T, xo, q => sk_exp (e_all T.toTf xo e (by simp only [sOk] at q; exact q))
  | .ret e, h, c, T, xo, q => sk_ret (e_all T.toTf xo e (by simp only [sOk] at q; exact q))
  | .ite e a b, h, c, T, xo, q => sk_ite (e_all T.toTf xo e (by simp only [sOk] at q; exact q.1)) (ss_all a h c T xo (by simp only [sOk] at q; exact q.2.1)) (ss_all b h c T xo (by simp only [sOk] at q; exact q.2.2))
  | .loop tt e b, h, c, T, xo, q => sk_loop T tt (e_all T.toTf xo e (by simp only [sOk] at q; exact q.1)) (fun _ y e1 => e_all T.toTf xo y (by subst e1; simp only [sOk, eOk] at q; exact q.1)) (ss_all b h c T xo (by simp only [sOk] at q; exact q.2))
  | .whl fuel e b, h, c, T, xo, q => sk_whl fuel (e_all T.toTf xo e (by simp only [sOk] at q; exact q.1)) (ss_all b h c T xo (by simp only [sOk] at q; exact q.2))
  | .brk, h, c, T, xo, q => sk_brk
  | .cnt, h, c, T, xo, q => sk_cnt
  | .pas, h, c, T, xo, q => sk_pas
  | .rse x es, h, c, T, xo, q => sk_rse x (es_all T.toTf xo es (by simp only [sOk] at q; exact q.1)) (by simp only [sOk] at q; exact q.2)
  | .try1 b x yes i n hd, h, c, T, xo, q => sk_try1 T xo x yes i n (by simp only [sOk] at q; exact q.2.1) (ss_all b h c T xo (by simp only [sOk] at q; exact q.1)) (fun xo' => ss_all hd true { c with xo := xo' } T (fun z => nomatch z) (by simp only [sOk] at q; exact q.2.2))
  | .try0 b x yes hd, h, c, T, xo, q => sk_try0 T xo x yes (by simp only [sOk] at q; exact q.2.1) (ss_all b h c T xo (by simp only [sOk] at q; exact q.1)) (ss_all hd true c T (fun z => nomatch z) (by simp only [sOk] at q; exact q.2.2))
  | .bset set a i e, h, c, T, xo, q => sk_bset set (by simp only [sOk] at q; exact q.2.2.2) (e_all T.toTf xo a (by simp only [sOk] at q; exact q.1)) (e_all T.toTf xo i (by simp only [sOk] at q; exact q.2.1)) (e_all T.toTf xo e (by simp only [sOk] at q; exact q.2.2.1))
  | .asgo _ _ _, h, c, T, xo, q => by simp only [sOk] at q
  | .app _ _ _, h, c, T, xo, q => by simp only [sOk] at q
theorem ss_all : ∀ (st : Sms J) (h : Bool) (c : Cf J), Tff t c.G → (h = false → c.xo = none) → ssOk (askOf t k c.T c.G) h st → SsOk t h k c st
  | .nil, h, c, T, xo, q => ss_nil'
  | .cons a r, h, c, T, xo, q => ss_cons' (s_all a h c T xo (by simp only [ssOk] at q; exact q.1)) (ss_all r h c T xo (by simp only [ssOk] at q; exact q.2))
  | .rel _ _, h, c, T, xo, q => by simp only [ssOk] at q
end
end
/-- a frame's start -/
theorem EI.start {T : Jt J} {G : Gs} {O : Addr → Prop} {w : Ws} {H : Hp} {s : List J} {ds : List D} {vs : List V} {N : List Str} (oo : OOk O w H) (jo : JOk T O H w s) (rs : Reps G O w H ds vs) :
    EI { T := T, G := G, O0 := O, H0 := H, w0 := w, xo := none } (ds.map .sh ++ List.replicate (N.length - ds.length) .no) (L2.start N vs) H w s O where
  go := Go.refl jo
  oo := oo
  o0 := fun _ h => h
  len := by
    unfold L2.start
    rw [List.length_append, List.length_append, List.length_map, List.length_map, List.length_replicate, List.length_replicate, rs.length]
  sl := fun i x e => by
    by_cases hi : i < ds.length
    · rw [List.getElem?_append_left (by rw [List.length_map]; exact hi), List.getElem?_map] at e
      obtain ⟨d, hd, rfl⟩ := Option.map_eq_some_iff.mp e
      obtain ⟨v, hv, rv⟩ := rs.get hd
      refine ⟨v, ?_, rv⟩
      unfold L2.start
      rw [List.getElem?_append_left (by rw [List.length_map, ← rs.length]; exact hi), List.getElem?_map, hv]
      rfl
    · rw [List.getElem?_append_right (by rw [List.length_map]; omega), List.getElem?_replicate] at e
      split at e
      · cases e; trivial
      · cases e
theorem post_body {T : Jt J} {G : Gs} {O : Addr → Prop} {w : Ws} {H : Hp} {s : List J} {ds : List D} {N : List Str} {b : Sms J} {W : WX} {Q : VK} {σ0 : St} (hW : ∀ cls dd σ σ' H, W cls dd σ H → W cls dd σ' H)
    (q : Post T G W σ0 O H w false (defn G.fl N.length b ds s) Q) :
    PostS { T := T, G := G, O0 := O, H0 := H, w0 := w, xo := none } W { nx := fun _ H' => Q .non H', rt := Q } O H w (svs G.fl b (ds.map .sh ++ List.replicate (N.length - ds.length) .no) s) := by
  unfold defn at q
  revert q
  cases svs G.fl b (ds.map .sh ++ List.replicate (N.length - ds.length) .no) s with
  | nx ρ' s' => exact fun q σ' H' w' O' I l => q .non H' w' (I.go.mono I.o0) (Rep.rp (show Rep G O w' H' .non .non from rfl) false) Own.no
  | ret x s' => exact fun q v H' w' g r o => q v H' w' g (r.rp false) o
  | brk ρ' s' => exact fun q => q.elim
  | cnt ρ' s' => exact fun q => q.elim
  | exc cn fs ρ' s' => exact fun q cls dd σ' H' w' O' I l e => hW _ _ _ _ _ (q cls dd H' w' (I.go.mono I.o0) (e.le ⟨fun _ _ h => h, fun b o h n => ⟨h, fun z => n (z.imp (I.o0 b) id)⟩⟩))
  | stk => exact fun q => q.elim
section
variable {t : Tx} {k : Nat} {T : Jt J} {G : Gs} {sg : Sg} {b : Sms J} {f : Addr} {name qual : Str} {params : Arguments} {body : List Stmt} {scope : Scope} {dV kV doc pm cdv ct oc : Value} {an od : Option Addr} {osl : Array (Option Value)} {N : List Str}
/-- a def by its body, no repr under way -/
theorem fn_ofZ {CX : CXT} {sp : Sp} {ps : List Str} (lk : t.K.lookup f = some ⟨oc, od, .func (PySem.W.fnOf name qual params body scope dV kV doc pm an cdv ct), osl⟩) (hcd : PySem.W.codeIn t.K cdv qual = true) (S : FnScope N ps scope)
    (hlen : ∀ vs H Q E, sp vs H Q E → vs.length = ps.length)
    (hB : ∀ (A : Around) (outer : List PySem.Env) (z : Shared) (H : Hp) (vs : List V) (Q : VK) (E : XK), Room k (A.deeper (envOfC qual scope z.heap.objs.size f cdv)) → A.guards = some [] → sp vs H Q E →
      ∃ r, PSs (cxOf CX t.P t.w t.K t.mg t.base N qual scope f cdv A outer z H E) body r ∧ r { nx := fun _ H' => Q .non H', rt := Q } (L2.start N vs) H) :
    FnZ t.P t.w t.K t.mg t.base CX (k + 1) f (PySem.W.fnOf name qual params body scope dV kV doc pm an cdv ct) ps sp := by
  refine ⟨hlen, fun A outer z H args us vs Q E hr hg e0 hb rv hsp => ?_⟩
  have l1 := hlen _ _ _ _ hsp
  have up : ∀ b o, t.base.get? b = some o → z.heap.get? b = some o := fun b o e => (e0.bs b o e).1
  have KX : t.K.In z.heap := e0.mod.kin.keeps up
  have lim : z.heap.NoLimit := e0.mod.nolimit.keeps up
  refine codeAny_call_function hr.depth (KX _ _ lk) rfl S.co S.gen rfl (PySem.W.codeRec_of KX hcd) (hb _ _ _ _ ?_)
  refine wpAny_newFunctionEnv_cells S.kind (fun ⟨n, v⟩ hy => (S.par n (List.of_mem_zip hy).1).imp id fun q => ⟨q, PySem.W.cellsFrom_some _ _ _ (.inl q)⟩) fun env he z1 x => ?_
  subst he
  refine ⟨lim.keeps x.toInCall.keep, codeAny_func ?_⟩
  obtain ⟨r, hr2, hq⟩ := hB A outer z H vs Q E (hr.deeper _) hg hsp
  have I0 : Inv (cxOf CX t.P t.w t.K t.mg t.base N qual scope f cdv A outer z H E) [] (L2.start N vs) H z1 := inv_start S hr.hd e0 l1 rv x
  refine wpAny_mono (hr2.run [] z1 (L2.start N vs) H _ I0 hq) (fun fl z2 hz => ?_) fun e z2 hz => hz
  match fl, hz with
  | .ret u, ⟨v, σ', H', J, ru, q⟩ => exact ⟨v, H', J.os, J.bare, J.base, J.hok, ru, q⟩
  | .next, ⟨σ', H', J, q⟩ => exact ⟨V.non, H', J.os, J.bare, J.base, J.hok, rfl, q⟩
  | .brk, ⟨_, _, _, q⟩ => exact False.elim q
  | .cont, ⟨_, _, _, q⟩ => exact False.elim q
theorem fn_cold (TF : Tff t G) (lk : t.K.lookup f = some ⟨oc, od, .func (PySem.W.fnOf name qual params body scope dV kV doc pm an cdv ct), osl⟩) (hcd : PySem.W.codeIn t.K cdv qual = true) (S : FnScope N sg.ps scope)
    (hm : mSs false scope N b body = true) (ok : ssOk (askOf t k T G) false b) : FnZ t.P t.w t.K t.mg t.base (L2N.CX t.P t.w) (k + 1) f (PySem.W.fnOf name qual params body scope dV kV doc pm an cdv ct) sg.ps (spD T G sg (defn G.fl N.length b) false) := by
  refine fn_ofZ lk hcd S (fun vs H Q E h => h.1) fun A outer s H vs Q E hr hgr hsp => ?_
  obtain ⟨_, ds, w, s0, O, oo, jo, rs, _, q⟩ := hsp
  refine ⟨_, ss_all b false { T := T, G := G, O0 := O, H0 := H, w0 := w, xo := none } TF (fun _ => rfl) ok _ (fun cls dd _ H' => E cls dd H') body ⟨rfl, rfl, rfl, rfl, rfl, S.nd, L2N.takes_of rfl rfl rfl rfl, ⟨hr.dp, hr.un⟩, (fun _ => ⟨rfl, hr.hd⟩), (fun _ => hgr), fun z => nomatch z⟩ ⟨fun _ => rfl, S.kind, L2.passes_of rfl, rfl, rfl⟩ (xr_none rfl) hm, ?_⟩
  exact ⟨_, w, s0, O, EI.start oo jo rs, post_body (fun _ _ _ _ _ h => h) q⟩
theorem fn_hot (TF : Tff t G) (lk : t.K.lookup f = some ⟨oc, od, .func (PySem.W.fnOf name qual params body scope dV kV doc pm an cdv ct), osl⟩) (hcd : PySem.W.codeIn t.K cdv qual = true) (S : FnScope N sg.ps scope)
    (hm : mSs true scope N b body = true) (ok : ssOk (askOf t k T G) true b) : L2H.FnH t.P t.w t.K t.mg t.base CX0 (k + 1) f (PySem.W.fnOf name qual params body scope dV kV doc pm an cdv ct) sg.ps (spD T G sg (defn G.fl N.length b) true) := by
  refine L2H.fn_ofH lk hcd S (fun vs H Q E h => h.1) fun A outer s H vs Q E p hot hr hsp => ?_
  obtain ⟨_, ds, w, s0, O, oo, jo, rs, _, q⟩ := hsp
  refine ⟨_, ss_all b true { T := T, G := G, O0 := O, H0 := H, w0 := w, xo := none } TF (fun _ => rfl) ok _ WN body ⟨rfl, rfl, rfl, rfl, rfl, S.nd, fun u s' ⟨_, _, _, _, _, _, _, _, _, _, _, _, _, _, _, _, w⟩ => w.elim, hr, (fun z => nomatch z), (fun z => nomatch z), fun _ => ⟨⟨p, ⟨hot.1, hot.2⟩, List.mem_cons_self⟩, rfl⟩⟩ ⟨fun _ => rfl, S.kind, L2.passes_of rfl, rfl, rfl⟩ (xr_none rfl) hm, ?_⟩
  exact ⟨_, w, s0, O, EI.start oo jo rs, post_body (fun _ _ _ _ _ h => h) q⟩
end
/-- the same promise, told otherwise -/
theorem spD_imp {T : Jt J} {G : Gs} {sg : Sg} {g g' : Fn J} {hot : Bool} (h : ∀ ds s, ds.length = sg.ps.length → g ds s = g' ds s ∨ g' ds s = .stk) : ∀ vs H Q E, spD T G sg g' hot vs H Q E → spD T G sg g hot vs H Q E := by
  rintro vs H Q E ⟨hl, ds, w, s, O, oo, jo, rs, hd, q⟩
  refine ⟨hl, ds, w, s, O, oo, jo, rs, hd, ?_⟩
  rcases h ds s hd with e | e
  · rw [e]; exact q
  · rw [e] at q; exact q.elim
end DL

set_option Elab.async false
set_option linter.all false
set_option maxRecDepth 100000
set_option maxHeartbeats 8000000
/-! The data layer, part u: boxes that are lists of data; a def that makes a box. -/
namespace DL
open PySem PySem.Spec PyProof.Rows L2
mutual
def noBox : D → Bool
  | .tup ds => noBoxs ds
  | .lst ds => noBoxs ds
  | .scr ds => noBoxs ds
  | .ins _ fs => noBoxs fs
  | .box _ => false
  | _ => true
def noBoxs : List D → Bool
  | [] => true
  | d :: ds => noBox d && noBoxs ds
end
section
variable {G : Gs} {O O' : Addr → Prop} {w w' : Ws} {H H' : Hp}
mutual
/-- without boxes only the places count -/
theorem Rep.nb (l : ∀ b o, H b = some o → ¬ Ban O w b → H' b = some o ∧ ¬ Ban O' w' b) : ∀ (d : D) (v : V), noBox d = true → Rep G O w H d v → Rep G O' w' H' d v
  | .non, _, _, h => h
  | .bl _, _, _, h => h
  | .int _, _, _, h => h
  | .str _, _, _, h => h
  | .tup ds, v, nb, h => by
    obtain ⟨a, vs, e, ha, r⟩ := h
    exact ⟨a, vs, e, ha.imp (fun z => l _ _ z.1 z.2) id, Reps.nb l ds vs (by simpa [noBox] using nb) r⟩
  | .lst ds, v, nb, h => by
    obtain ⟨a, vs, e, ha, n, r⟩ := h
    obtain ⟨h1, h2⟩ := l _ _ ha n
    exact ⟨a, vs, e, h1, h2, Reps.nb l ds vs (by simpa [noBox] using nb) r⟩
  | .scr ds, v, nb, h => by
    obtain ⟨a, vs, e, ha, r⟩ := h
    exact ⟨a, vs, e, ha.imp (fun ⟨⟨o, h1⟩, n⟩ => ⟨⟨o, (l _ _ h1 n).1⟩, (l _ _ h1 n).2⟩) id, Reps.nb l ds vs (by simpa [noBox] using nb) r⟩
  | .ins c fs, v, nb, h => by
    obtain ⟨a, C, dx, vs, e, hc, ha, n, hl, r⟩ := h
    obtain ⟨h1, h2⟩ := l _ _ ha n
    exact ⟨a, C, dx, vs, e, hc, h1, h2, hl, Reps.nb l fs vs (by simpa [noBox] using nb) r⟩
  | .box k, v, nb, h => by simp [noBox] at nb
theorem Reps.nb (l : ∀ b o, H b = some o → ¬ Ban O w b → H' b = some o ∧ ¬ Ban O' w' b) : ∀ (ds : List D) (vs : List V), noBoxs ds = true → Reps G O w H ds vs → Reps G O' w' H' ds vs
  | [], _, _, h => h
  | d :: ds, vs, nb, h => by
    simp only [noBoxs, Bool.and_eq_true] at nb
    obtain ⟨v, r, e, h1, h2⟩ := h
    exact ⟨v, r, e, Rep.nb l d v nb.1 h1, Reps.nb l ds r nb.2 h2⟩
end
end
abbrev w0 : Ws := ⟨[], []⟩
theorem ban0 {O : Addr → Prop} {b : Addr} : Ban O w0 b ↔ O b := ⟨fun z => z.elim id fun ⟨fp, h, _⟩ => absurd h (by simp), .inl⟩
/-- a box: a list of data -/
def TL (G : Gs) : Jt (List D) where
  rep := fun B H a j fp => fp = [a] ∧ noBoxs j = true ∧ ∃ vs, H a = some (.lst vs) ∧ Reps G B w0 H j vs
  has := fun {B H a j fp} ⟨e, _, vs, h, _⟩ => by
    subst e
    exact ⟨List.mem_singleton.mpr rfl, fun b hb => by
      rw [List.mem_singleton] at hb
      subst hb
      exact ⟨vs, h⟩⟩
  fr := fun {B B' H H' a j fp} ⟨e, nb, vs, h, r⟩ l k => by
    subst e
    refine ⟨rfl, nb, vs, (k a (List.mem_singleton.mpr rfl)).trans h, Reps.nb (fun b o e n => ?_) j vs nb r⟩
    obtain ⟨h1, h2⟩ := l b o e fun z => n (ban0.mpr z)
    exact ⟨h1, fun z => h2 (ban0.mp z)⟩
theorem get_ok (G : Gs) : GetOk (TL G) G id := fun {B H a j fp} ⟨_, _, vs, h, r⟩ => ⟨vs, h, r⟩
def setL (j : List D) (i : Int) (d : D) : Option (List D) := if noBox d then (ixOf j.length i).map fun n => j.set n d else none
theorem noBoxs_set : ∀ {j : List D} {n : Nat} {d : D}, noBoxs j = true → noBox d = true → noBoxs (j.set n d) = true
  | [], _, _, _, _ => by simp [noBoxs]
  | x :: j, 0, d, h, h2 => by
    simp only [noBoxs, Bool.and_eq_true, List.set_cons_zero] at h ⊢
    exact ⟨h2, h.2⟩
  | x :: j, n + 1, d, h, h2 => by
    simp only [noBoxs, Bool.and_eq_true, List.set_cons_succ] at h ⊢
    exact ⟨h.1, noBoxs_set h.2 h2⟩
theorem Reps.set {G : Gs} {O : Addr → Prop} {w : Ws} {H : Hp} : ∀ {ds : List D} {vs : List V} {n : Nat} {d : D} {v : V}, Reps G O w H ds vs → Rep G O w H d v → Reps G O w H (ds.set n d) (vs.set n v)
  | [], _, _, _, _, h, _ => by cases (show _ = _ from h); simp; exact rfl
  | x :: ds, vs, 0, d, v, h, h2 => by
    obtain ⟨u, r, rfl, h1, h3⟩ := h
    exact ⟨v, r, rfl, h2, h3⟩
  | x :: ds, vs, n + 1, d, v, h, h2 => by
    obtain ⟨u, r, rfl, h1, h3⟩ := h
    exact ⟨u, r.set n v, rfl, h1, Reps.set h3 h2⟩
theorem set_ok (G : Gs) : SetOk (TL G) G setL := by
  intro O w H a j j' fp i d v rp hin hj hs hr
  obtain ⟨e, nb, vs, h, r⟩ := rp
  unfold setL at hs
  split at hs
  · rename_i nd
    obtain ⟨n, hn, rfl⟩ := Option.map_eq_some_iff.mp hs
    refine ⟨vs, n, h, by rw [← r.length]; exact hn, e, noBoxs_set nb nd, _, upd_same, ?_⟩
    have l : ∀ b o, H b = some o → ¬ Ban (Ban O w) w0 b → upd H a (.lst (vs.set n v)) b = some o ∧ ¬ Ban (Ban O w) w0 b := fun b o e n => ⟨by
      rw [upd_ne (show b ≠ a from fun q => n (ban0.mpr (.inr (by rw [q]; exact hj))))]; exact e, n⟩
    have rv : Rep G (Ban O w) w0 H d v := Rep.nb (fun b o e n => ⟨e, fun z => n (ban0.mp z)⟩) d v nd hr
    exact Reps.nb l _ _ (noBoxs_set nb nd) (r.set rv)
  · cases hs
/-- a def that makes a new list: the list as a box -/
def jar (g : Fn (List D)) : Fn (List D) := fun ds s => match g ds s with
  | .ok (.lst xs, true) s' => if noBoxs xs then .ok (.box s'.length, false) (s' ++ [xs]) else .stk
  | .ok _ _ => .stk
  | .exc c fs s' => .exc c fs s'
  | .stk => .stk
theorem jar_post {G : Gs} {W : WX} {σ : St} {O : Addr → Prop} {H : Hp} {w : Ws} {r : R (List D) (D × Bool)} {Q : VK}
    (h : Post (TL G) G W σ O H w false (match r with
      | .ok (.lst xs, true) s' => if noBoxs xs then .ok (.box s'.length, false) (s' ++ [xs]) else .stk
      | .ok _ _ => .stk
      | .exc c fs s' => .exc c fs s'
      | .stk => .stk) Q) : Post (TL G) G W σ O H w false r Q := by
  cases r with
  | stk => exact h
  | exc c fs s' => exact h
  | ok x s' =>
    obtain ⟨d, u⟩ := x
    cases d <;> try exact h.elim
    rename_i xs
    cases u with
    | false => exact h.elim
    | true =>
      simp only at h
      split at h
      · rename_i nb
        intro v H' w' g rp ow
        obtain ⟨a, vs, ds, e0, rfl, h1, h2, h3, h4, h5⟩ := ow rfl
        cases e0
        have lw : w'.hb.length = s'.length := g.jok.l1
        have lf : w'.fps.length = s'.length := g.jok.l2
        have inJ2 : ∀ b, Ws.inJ ⟨w'.hb ++ [a], w'.fps ++ [[a]]⟩ b ↔ (w'.inJ b ∨ b = a) := fun b => by
          constructor
          · rintro ⟨fp, hf, hb⟩
            rcases List.mem_append.mp hf with q | q
            · exact .inl ⟨fp, q, hb⟩
            · rw [List.mem_singleton] at q
              subst q
              exact .inr (List.mem_singleton.mp hb)
          · rintro (⟨fp, hf, hb⟩ | rfl)
            · exact ⟨fp, List.mem_append_left _ hf, hb⟩
            · exact ⟨[b], List.mem_append_right _ (List.mem_singleton.mpr rfl), List.mem_singleton.mpr rfl⟩
        have jk : JOk (TL G) O H' ⟨w'.hb ++ [a], w'.fps ++ [[a]]⟩ (s' ++ [xs]) := by
          refine ⟨by simp [lw], by simp [lf], fun k b fp j q1 q2 q3 => ?_, fun k l fp fp' b q1 q2 q3 q4 => ?_⟩
          · by_cases hk : k < s'.length
            · rw [List.getElem?_append_left (by rw [lw]; exact hk)] at q1
              rw [List.getElem?_append_left (by rw [lf]; exact hk)] at q2
              rw [List.getElem?_append_left hk] at q3
              refine (TL G).fr (h4.at_ k b fp j q1 q2 q3) (fun b o e n => ⟨e, fun z => n ?_⟩) fun _ _ => rfl
              rcases z with z | z
              · exact .inl (.inl z)
              · exact ((inJ2 b).mp z).elim (fun y => .inr y) (fun y => .inl (.inr y))
            · have hk2 : k = s'.length := by
                have := (List.getElem?_eq_some_iff.mp q3).1
                simp at this
                omega
              subst hk2
              rw [List.getElem?_append_right (by omega)] at q1 q2 q3
              simp [lw] at q1
              simp [lf] at q2
              simp at q3
              subst q1 q2 q3
              refine ⟨rfl, nb, vs, h2, Reps.nb (fun b o e n => ⟨e, fun z => n ?_⟩) _ _ nb h5⟩
              rcases ban0.mp z with z | z
              · exact .inl (.inl z)
              · exact ((inJ2 b).mp z).elim (fun y => .inr y) (fun y => .inl (.inr y))
          · have pos : ∀ m fq, (w'.fps ++ [[a]])[m]? = some fq → (m < s'.length ∧ w'.fps[m]? = some fq) ∨ (m = s'.length ∧ fq = [a]) := fun m fq e => by
              by_cases hm : m < s'.length
              · rw [List.getElem?_append_left (by rw [lf]; exact hm)] at e
                exact .inl ⟨hm, e⟩
              · rw [List.getElem?_append_right (by rw [lf]; omega)] at e
                rw [lf] at e
                have : m - s'.length < 1 := by
                  have := (List.getElem?_eq_some_iff.mp e).1
                  simpa using this
                have e2 : m = s'.length := by omega
                subst e2
                simp at e
                exact .inr ⟨rfl, e.symm⟩
            rcases pos k fp q1 with ⟨m1, p1⟩ | ⟨m1, p1⟩ <;> rcases pos l fp' q2 with ⟨m2, p2⟩ | ⟨m2, p2⟩
            · exact g.jok.ap k l fp fp' b p1 p2 q3 q4
            · subst p2
              rw [List.mem_singleton] at q4
              subst q4
              exact absurd ⟨fp, List.mem_of_getElem? p1, q3⟩ h3
            · subst p1
              rw [List.mem_singleton] at q3
              subst q3
              exact absurd ⟨fp', List.mem_of_getElem? p2, q4⟩ h3
            · rw [m1, m2]
        have gg : Go (TL G) O H w H' ⟨w'.hb ++ [a], w'.fps ++ [[a]]⟩ (s' ++ [xs]) :=
          ⟨fun i b q => by
              have q2 := g.hb i b q
              show (w'.hb ++ [a])[i]? = some b
              rw [List.getElem?_append_left (List.getElem?_eq_some_iff.mp q2).1]
              exact q2, g.st, g.al,
            fun b z => ((inJ2 b).mp z).elim (g.nw b) (fun y => .inr (by rw [y]; exact h1)), fun b z => (g.kp b z).imp (fun y => (inJ2 b).mpr (.inl y)) id, jk⟩
        refine h (.ref a) H' _ gg (Rep.rp (show Rep G O _ H' (.box s'.length) (.ref a) from ⟨a, ?_, rfl⟩) false) Own.no
        show (w'.hb ++ [a])[s'.length]? = some a
        rw [List.getElem?_append_right (by omega)]
        simp [lw]
      · exact h.elim
theorem spD_jar {G : Gs} {sg : Sg} {g : Fn (List D)} {hot : Bool} : ∀ vs H Q E, spD (TL G) G sg (jar g) hot vs H Q E → spD (TL G) G sg g hot vs H Q E := by
  rintro vs H Q E ⟨hl, ds, w, s, O, oo, jo, rs, hd, q⟩
  exact ⟨hl, ds, w, s, O, oo, jo, rs, hd, jar_post q⟩
end DL

set_option Elab.async false
set_option linter.all false
set_option maxRecDepth 100000
set_option maxHeartbeats 8000000
/-! The data layer, part v: the law's promise at the heap behind the top. -/
namespace DL
open PySem PySem.Spec PyProof.Rows L2
variable {J : Type}
theorem exm_of {K : PySem.W.Frag} {C D : Addr} {b : Bool} (h1 : PySem.W.subIn K (.ref D) (.type "BaseException") = some true) (h2 : PySem.W.isClsIn K D = true) (h3 : PySem.W.typeIn K (.ref D) = some (.type "type")) (h4 : PySem.W.subIn K (.ref C) (.ref D) = some b) :
    PySem.W.exmOne K (.ref C) (.ref D) = some b := by
  unfold PySem.W.exmOne PySem.W.kitCls
  have h2' : (PySem.W.clsIn K D).isSome = true := h2
  rw [h1, if_pos (by simp)]
  simp [h2', h3, h4]
theorem kit_no {K : PySem.W.Frag} {C : Addr} {T : String} (h : PySem.W.kitMeta T = true) (h2 : PySem.W.subIn K (.ref C) (.type T) = some false) : PySem.W.kitOne K (.ref C) (.type T) = some false := by
  unfold PySem.W.kitOne PySem.W.kitCls
  rw [if_neg (by intro z; simp at z)]
  simp only [h, if_true]
  exact h2
/-- the handed list, an abstract heap that tracks at most it -/
structure Han (K : PySem.W.Frag) (a : Addr) (z : Shared) (us : List Value) (ns : List Int) (H : Hp) : Prop where
  only : Only H
  seq : SqL K H a (ns.map V.int)
  one : ∀ b, H b ≠ none → b = a
  out : H a ≠ none → K.lookup a = none
theorem law_callZ {P : Program} {w : World} {K : PySem.W.Frag} {mg mb : Str → Option Value} {CX : CXT} {k : Nat} {fa a : Addr} {fd : FuncData} {x : Str} {sp : Sp} {z : Shared} {us : List Value} {ns : List Int} (KX : K.In z.heap) (n1 : z.heap.Ns mainGlobals mg) (n2 : z.heap.Ns builtinsNs mb)
    (n3 : ∀ x : Str, x ≠ "__name__" → mb x = bootBuiltins x) (lim : z.heap.NoLimit) (gen : z.gens = #[]) (ha : z.heap.get? a = some { cls := .type "list", data := .seq us.toArray }) (hi : IntsAre us ns) (hl : ns.length ≤ sizeLine) (hr : Room k callerA)
    (F : ∀ base : Heap, K.In base → base.Ns mainGlobals mg → FnZ P w K mg base CX k fa fd [x] sp) (bind : ∀ (s : Shared) (u : Value), BindsTo s fd ⟨[u], []⟩ [(x, u)])
    (hsp : ∀ H : Hp, Only H → SqL K H a (ns.map V.int) → sp [.ref a] H (fun v _ => v = .bl true) fun _ _ _ => False) (hx : ∀ H e s', CX [] H z (fun _ _ _ => False) e s' → False) :
    codeAny (model P w) callerA (.call (.ref fa) ⟨[.ref a], []⟩) (fun r s' => r = .ok (.ret (.bool true)) ∧ OldK z.heap s'.heap ∧ s'.os = z.os ∧ AllBare s'.gens) z := by
  have rv := vals_ints hi
  have core : ∀ H : Hp, Han K a z us ns H → HOk P w H z.heap → codeAny (model P w) callerA (.call (.ref fa) ⟨[.ref a], []⟩) (fun r s' => r = .ok (.ret (.bool true)) ∧ OldK z.heap s'.heap ∧ s'.os = z.os ∧ AllBare s'.gens) z := by
    intro H hh hok
    have at_a : ∀ {b : Addr} {u : HO}, H b = some u → b = a := fun {b u} q => hh.one b (by rw [q]; simp)
    have hid : ∀ {b : Addr} {o : Obj}, z.heap.get? b = some o → H b = none → (hidT z.heap H).get? b = some o := fun e n => hidT_get e n
    have dic : ∀ {b : Addr} {o : Obj} {es : Array DictEntry} {ep : Nat}, z.heap.get? b = some o → o.data = .dict es ep → H b = none := fun {b o es ep} e d => by
      cases q : H b with
      | none => rfl
      | some u =>
        have eb := at_a q
        subst eb
        rw [ha] at e
        cases e
        exact nomatch (show Data.seq us.toArray _ = Data.dict es ep from d)
    have nsH : ∀ {b : Addr} {m : Str → Option Value}, z.heap.Ns b m → (hidT z.heap H).Ns b m := fun {b m} ⟨o, es, ep, e, d, r⟩ => ⟨o, es, ep, hid e (dic e d), d, r⟩
    have kin : K.In (hidT z.heap H) := fun b o e => hid (KX b o e) (by
      cases q : H b with
      | none => rfl
      | some u =>
        have eb := at_a q
        subst eb
        rw [hh.out (by rw [q]; simp)] at e
        cases e)
    obtain ⟨mc, c1, c2⟩ := lim
    have mod : Mod K mg (hidT z.heap H) := ⟨kin, nsH n1, ⟨mb, nsH n2, n3⟩, ⟨mc, nsH c1, c2⟩⟩
    have env0 : Env0 P w K mg (hidT z.heap H) callerA [] z H := by
      refine ⟨rfl, mod, fun b o e => of_hidT e, Nat.le_of_eq (hidT_size _ _), trivial, fun b hb => ?_, hok, .of_eq gen⟩
      exact absurd (show b ∈ ([] : List Addr) from hb) (by simp)
    refine codeAny_mono ((F _ kin (nsH n1)).run callerA [] z H ⟨[.ref a], []⟩ [.ref a] [.ref a] _ _ hr rfl env0 (bind z (.ref a)) (.cons rfl .nil) (hsp H hh.only hh.seq)) fun r s' h => ?_
    match r, h with
    | .error e, h => exact (hx H e s' h).elim
    | .ok .next, h => exact False.elim h
    | .ok .brk, h => exact False.elim h
    | .ok .cont, h => exact False.elim h
    | .ok (.ret u), ⟨v, H', os, bare, un, hok', ru, q⟩ =>
      obtain rfl : v = .bl true := q
      obtain rfl : u = Value.bool true := ru
      refine ⟨rfl, OldK.of_keep fun b o e => ?_, os, bare⟩
      have nn : ∀ c : Addr, c ∉ ([] : List Addr) := fun c => by simp
      cases q : H b with
      | none => exact un.keep b o e q (nn b) (nn b)
      | some u =>
        rcases hh.only b with t | ⟨ob, xs, t⟩
        · rw [q] at t; cases t
        · have t2 := un.frzs b ob _ t
          have e1 := (hok b _ t).1
          have e2 := (hok' b _ t2).1
          rw [e] at e1
          cases e1
          exact e2
  cases hk : K.lookup a with
  | some o =>
    have e := KX a o hk
    rw [ha] at e
    cases e
    refine core (fun _ => none) ⟨fun _ => .inl rfl, .inr ⟨_, us.toArray, _, hk, rfl, rfl, rfl, ?_, by simpa using rv⟩, fun b t => absurd rfl t, fun t => absurd rfl t⟩ fun b u t => nomatch (show (none : Option HO) = some u from t)
    rw [List.size_toArray, hi.length]
    exact hl
  | none =>
    let ob : HO := .frz { cls := .type "list", data := .seq us.toArray } (.lst (ns.map V.int))
    have yes : (fun b => if b = a then some ob else none : Hp) a = some ob := if_pos rfl
    have no : ∀ b, b ≠ a → (fun b => if b = a then some ob else none : Hp) b = none := fun b hb => if_neg hb
    refine core (fun b => if b = a then some ob else none) ⟨fun b => ?_, .inl (.inr ⟨_, yes⟩), fun b t => Classical.byContradiction fun hb => t (no b hb), fun _ => hk⟩ fun b u t => ?_
    · by_cases hb : b = a
      · exact .inr ⟨_, _, by rw [hb]; exact yes⟩
      · exact .inl (no b hb)
    · by_cases hb : b = a
      · subst hb
        cases yes.symm.trans t
        exact ⟨ha, by rw [List.length_map]; exact hl, us, _, rv, ha⟩
      · cases (no b hb).symm.trans t
theorem walk_ofZ {l : PySem.W.OpenLaw} {n k : Nat} {q : Program} {loose : List Str} {XP : (Str → Option Value) → Heap → Prop} {YP : World → Heap → Prop} {d : DefRec} {K : Params → PySem.W.Frag} {CX : World → CXT} {x : Str} (hn : l.most = some n) (hn2 : n ≤ sizeLine) (hdf : d.params.defaults = []) (hr : Room k callerA)
    (hY : ∀ (w : World) (h : Heap), YP w h → (K w.params).In h) (F : ∀ (w : World) (mg : Str → Option Value) (fa : Addr) (h : Heap), (K w.params).In h → h.Ns mainGlobals mg → mg d.name = some (.ref fa) →
      ∃ (fd : FuncData) (sp : Sp), (∀ (s : Shared) (u : Value), BindsTo s fd ⟨[u], []⟩ [(x, u)]) ∧ (∀ (H : Hp) (a : Addr) (ns : List Int), ns.length ≤ n → Only H → SqL (K w.params) H a (ns.map V.int) → sp [.ref a] H (fun v _ => v = .bl true) fun _ _ _ => False) ∧
        ∀ base : Heap, (K w.params).In base → base.Ns mainGlobals mg → FnZ l.prog w (K w.params) mg base (CX w) k fa fd [x] sp)
    (hx : ∀ (w : World) (H : Hp) (s : Shared) (e : Value) (s' : Shared), CX w [] H s (fun _ _ _ => False) e s' → False) : PySem.W.WalkO q loose XP YP l.row.toRowW d [] (fun f vs => PySem.call f vs) := by
  refine Att.attach_call hn hdf fun w s₀ z mg mb fa o pm cd doc a vs ns G Y ho hd hcd hmg hobj hints hlen hg => ?_
  have KX := hY w _ Y
  obtain ⟨fd, sp, hb, hS, hF⟩ := F w mg fa _ KX G.T.g hmg
  exact law_callZ KX G.T.g G.T.b G.T.builtins G.T.nolimit hg hobj hints (Nat.le_trans hlen hn2) hr hF hb (fun H h1 h2 => hS H a ns hlen h1 h2) fun H e s' => hx w H z e s'
/-- the law's promise at its start: the handed list, no box -/
theorem law_start {T : Jt J} {G : Gs} {sg : Sg} {g : Fn J} {H : Hp} {a : Addr} {ns : List Int} {x : Str} (hps : sg.ps = [x]) (hO : Only H) (hS : SqL G.K H a (ns.map V.int)) (hg : ∃ s', g [.scr (ns.map D.int)] [] = .ok (.bl true, false) s') :
    spD T G sg g false [.ref a] H (fun v _ => v = .bl true) fun _ _ _ => False := by
  obtain ⟨s', hg⟩ := hg
  have hin : ∀ ns : List Int, Reps G (fun _ => False) ⟨[], []⟩ H (ns.map D.int) (ns.map V.int) := fun ns => by
    induction ns with
    | nil => exact rfl
    | cons n r ih => exact ⟨.int n, _, rfl, rfl, ih⟩
  have nb : ∀ b, ¬ Ban (fun _ => False) ⟨[], []⟩ b := fun b z => z.elim id fun ⟨fp, h, _⟩ => absurd h (by simp)
  refine ⟨by rw [hps]; rfl, [.scr (ns.map D.int)], ⟨[], []⟩, [], fun _ => False, ⟨fun b h => h.elim, fun b h => h.elim⟩, ⟨rfl, rfl, fun k a fp j h => by simp at h, fun k l fp fp' b h => by simp at h⟩, ?_, by rw [hps]; rfl, ?_⟩
  · refine ⟨.ref a, [], rfl, ⟨a, ns.map V.int, rfl, ?_, hin ns⟩, rfl⟩
    rcases hS with h | h
    · rcases h with h | ⟨o, h⟩
      · rcases hO a with q | ⟨o, xs, q⟩
        · rw [q] at h; cases h
        · rw [q] at h; cases h
      · exact .inl ⟨⟨o, h⟩, nb a⟩
    · exact .inr h
  · rw [hg]
    exact fun v H' w' g' r _ => r.bl
end DL

set_option Elab.async false
set_option linter.all false
set_option maxRecDepth 100000
set_option maxHeartbeats 8000000
/-! The data layer, part w: a new instance, no repr under way. -/
namespace DL
open PySem PySem.Spec PyProof.Rows L2
theorem make_guards (A : Around) (a : Args) : (A.under (.builtin "type.__call__" a)).guards = A.guards := by
  obtain ⟨hd, d, fr, gs, u⟩ := A
  cases gs <;> simp [Around.under, pushGuards, Code.guards, Code.isGuard, guardIds]
theorem run_makeZ {X : Cx} {C f : Addr} {k : Nat} {fd : FuncData} {ps : List Str} {sp : Sp} {pins : List (Addr × Obj)} {σ : St} {H : Hp} {s : Shared} {Q : VK} {us : List Value} {vs : List V} (M : Mk X.K C f) (F : FnZ X.prog X.w X.K X.mg X.base CX0 k f fd ps sp) (hr : Room (k + 1) X.A)
    (hg : X.A.guards = some []) (hb : Binds X.K fd ps []) (I : Inv X pins σ H s) (r : Vals vs us)
    (h : ∀ x dx, H x = none → H dx = none → dx ≠ x → sp (.ref x :: vs) (upd (upd H dx (.own x)) x (.ins C dx [])) (fun v H2 => v = .non ∧ Q (.ref x) H2) (fun _ _ _ => False)) : wpAny (model X.prog X.w) X.A (call (.ref C) us) (EP X pins σ Q) X.xe s := by
  let z : Addr := s.heap.objs.size + 1
  have hq := h z s.heap.objs.size (I.hok.fresh (Nat.le_succ _)) (I.hok.fresh (Nat.le_refl _)) (Nat.ne_of_lt (Nat.lt_succ_self _))
  have I2 := Inv.made (C := C) I
  have r2 : Vals (V.ref z :: vs) (Value.ref z :: us) := .cons rfl r
  have hl : (Value.ref z :: us ++ []).length = ps.length := by
    rw [List.append_nil, ← r2.length]
    exact F.len _ _ _ _ hq
  have b2 := hb _ (Value.ref z :: us) I2.kIn hl
  rw [List.append_nil] at b2
  have body := F.run _ X.stack _ _ ⟨Value.ref z :: us, []⟩ _ _ _ _ (hr.make C us []) ((make_guards X.A _).trans hg) (I2.env0.make C us []) b2 r2 hq
  refine wpAny_call (make_map (f := f) I.kIn M.makes M.init (beq_iff_eq.mp M.fn) (codeAny_mono body fun rr s' hq' => ?_))
  match rr, hq' with
  | .error e, hq' => exact False.elim hq'
  | .ok .next, hq' => exact False.elim hq'
  | .ok .brk, hq' => exact False.elim hq'
  | .ok .cont, hq' => exact False.elim hq'
  | .ok (.ret u), hq' =>
    obtain ⟨v, H', I3, rv, ev, q3⟩ := I2.after hq'
    subst ev
    exact ⟨rv, V.ref z, H', I3, rfl, q3⟩
end DL

set_option Elab.async false
set_option linter.all false
set_option maxRecDepth 100000
set_option maxHeartbeats 8000000
namespace K00
open PySem PySem.Spec PyProof.Rows L2 DL
abbrev J := List D
def top (i : Nat) : Stmt := PySem.Challenge.pw_learnrealm_k00_shares_reckoned.main.body.getD i (.Pass ⟨0, 0, 0, 0⟩)
def flds : Flds := fun c => if c = "Rules" then ["size", "rows"] else if c = "InvalidNumber" then ["value"] else if c = "InvalidRules" then ["value"] else if c = "Undefined" then ["what"] else []
def yes_Undefined : Str → Bool := fun c => c == "Undefined"
def yes_InvalidNumber : Str → Bool := fun c => c == "InvalidNumber"
def yes_GuessError : Str → Bool := fun _ => true
def fuelAt (i : Nat) : DL.Env → Nat := fun ρ => match ρ[i]? with
  | some (.sh (.int z)) => z.natAbs + 1
  | _ => 0
def g_Rules : Fn J := fun ds s => match ds with
  | [.int 1, .lst [.tup [.int 0], .tup [.int 1]]] => .ok (.ins "Rules" [.int 1, .tup [.tup [.int 0], .tup [.int 1]]], false) s
  | _ => .stk

def sg_is_integer : Sg := ⟨"is_integer", ["value"], []⟩
def sg_is_value : Sg := ⟨"is_value", ["value"], []⟩
def sg_is_row : Sg := ⟨"is_row", ["value", "size"], []⟩
def sg_is_number : Sg := ⟨"is_number", ["value"], []⟩
def sg_are_rows : Sg := ⟨"are_rows", ["size", "rows"], []⟩
def sg__law_same : Sg := ⟨"_law_same", ["told", "due"], []⟩
def sg_common_divisor : Sg := ⟨"common_divisor", ["a", "b"], []⟩
def sg_is_share : Sg := ⟨"is_share", ["value"], [(0, ["value"])]⟩
def sg__law_up : Sg := ⟨"_law_up", ["one"], []⟩
def sg_rounded_up : Sg := ⟨"rounded_up", ["one"], [(0, ["one"])]⟩
def sg_is_below : Sg := ⟨"is_below", ["one", "other"], [(0, ["other", "one"])]⟩
def sg_share_of : Sg := ⟨"share_of", ["a", "b"], [(0, ["b", "a"])]⟩
def sg_over : Sg := ⟨"over", ["one", "other"], []⟩
def sg__law_low : Sg := ⟨"_law_low", ["top", "bottom"], []⟩
def sg_times : Sg := ⟨"times", ["one", "other"], [(0, ["other", "one"])]⟩
def sg_less : Sg := ⟨"less", ["one", "other"], [(0, ["other", "one"])]⟩
def sg__law_sum : Sg := ⟨"_law_sum", ["one", "other"], []⟩
def sg_plus : Sg := ⟨"plus", ["one", "other"], []⟩
def sg__law_pick : Sg := ⟨"_law_pick", ["hand", "many"], []⟩
def sg__law_number : Sg := ⟨"_law_number", ["hand"], []⟩
def sg__law_share : Sg := ⟨"_law_share", ["hand"], []⟩
def sg__law_second : Sg := ⟨"_law_second", ["hand", "one"], []⟩
def sg__law_chain_right : Sg := ⟨"_law_chain_right", ["hand", "one"], []⟩
def sg_total_of : Sg := ⟨"total_of", ["shares"], [(0, ["shares"])]⟩
def sg__law_total_right : Sg := ⟨"_law_total_right", ["shares"], []⟩
def sg__law_is_share : Sg := ⟨"_law_is_share", ["value"], []⟩
def sg__law_values_right : Sg := ⟨"_law_values_right", ["one"], []⟩
def sg__law_bottom_refused : Sg := ⟨"_law_bottom_refused", ["top"], []⟩
def sg__law_made_right : Sg := ⟨"_law_made_right", ["hand"], []⟩
def sg__law_nought_refused : Sg := ⟨"_law_nought_refused", ["one", "nought"], []⟩
def sg__law_pair_right : Sg := ⟨"_law_pair_right", ["one", "other"], []⟩
def sg__law_hand : Sg := ⟨"_law_hand", ["script"], []⟩
def sg__law_all : Sg := ⟨"_law_all", ["script"], []⟩
def sg_law : Sg := ⟨"law", ["script"], []⟩
def sg_Rules : Sg := ⟨"Rules", ["size", "rows"], []⟩
abbrev s_is_integer : Stmt := top 7
def n_is_integer : List Str := ["value"]
def b_is_integer : Sms J :=
 (.cons (.ret (.bop .And (.cons (.isi (.var 0 "value") "int") (.cons (.not (.isi (.var 0 "value") "bool")) .nil))))
 .nil)
def g_is_integer : Fn J := defn flds 1 b_is_integer
abbrev s_is_value : Stmt := top 20
def n_is_value : List Str := ["value"]
def b_is_value : Sms J :=
 (.cons (.ret (.bop .And (.cons (.call sg_is_integer g_is_integer (.cons (.var 0 "value") .nil)) (.cons (.chn .LtE .LtE (.int 0) (.var 0 "value") (.int 1)) .nil))))
 .nil)
def g_is_value : Fn J := defn flds 1 b_is_value
abbrev s_is_row : Stmt := top 21
def n_is_row : List Str := ["value", "size", "one"]
def b_is_row_1 : E J :=
 (.var 2 "one")
def b_is_row_2 : Es J :=
 (.cons (.not (.call sg_is_value g_is_value (.cons (.var 2 "one") .nil))) .nil)
def b_is_row : Sms J :=
 (.cons (.ite (.bop .Or (.cons (.not (.isi (.var 0 "value") "tuple")) (.cons (.cmp .NotEq (.bi "len" (.cons (.var 0 "value") .nil)) (.var 1 "size")) .nil)))
 (.cons (.ret (.bl false))
 .nil)
 .nil)
 (.cons (.ret (.cmp .Eq (.bi "len" (.cons (.lc b_is_row_1 (.nm 2 "one") (.var 0 "value") b_is_row_2 [("one", 2)]) .nil)) (.int 0)))
 .nil))
def g_is_row : Fn J := defn flds 3 b_is_row
abbrev s_is_number : Stmt := top 8
def n_is_number : List Str := ["value"]
def b_is_number : Sms J :=
 (.cons (.ret (.bop .And (.cons (.call sg_is_integer g_is_integer (.cons (.var 0 "value") .nil)) (.cons (.cmp .GtE (.var 0 "value") (.int 0)) .nil))))
 .nil)
def g_is_number : Fn J := defn flds 1 b_is_number
abbrev s_are_rows : Stmt := top 23
def n_are_rows : List Str := ["size", "rows", "row"]
def b_are_rows_1 : E J :=
 (.var 2 "row")
def b_are_rows_2 : Es J :=
 (.cons (.not (.call sg_is_row g_is_row (.cons (.var 2 "row") (.cons (.var 0 "size") .nil)))) .nil)
def b_are_rows : Sms J :=
 (.cons (.ite (.bop .Or (.cons (.not (.call sg_is_number g_is_number (.cons (.var 0 "size") .nil))) (.cons (.not (.isi2 (.var 1 "rows") "tuple" "list")) (.cons (.cmp .Eq (.bi "len" (.cons (.var 1 "rows") .nil)) (.int 0)) .nil))))
 (.cons (.ret (.bl false))
 .nil)
 .nil)
 (.cons (.ret (.cmp .Eq (.bi "len" (.cons (.lc b_are_rows_1 (.nm 2 "row") (.var 1 "rows") b_are_rows_2 [("row", 2)]) .nil)) (.int 0)))
 .nil))
def g_are_rows : Fn J := defn flds 3 b_are_rows
abbrev s__law_same : Stmt := top 28
def n__law_same : List Str := ["told", "due", "k"]
def b__law_same_1 (g : Fn J) : Sms J :=
 (.cons (.ite (.not (.call sg__law_same g (.cons (.sub (.var 0 "told") (.var 2 "k")) (.cons (.sub (.var 1 "due") (.var 2 "k")) .nil))))
 (.cons (.ret (.bl false))
 .nil)
 .nil)
 .nil)
def b__law_same (g : Fn J) : Sms J :=
 (.cons (.ite (.isi (.var 1 "due") "bool")
 (.cons (.ret (.ife (.var 1 "due") (.cmp .Is (.var 0 "told") (.bl true)) (.cmp .Is (.var 0 "told") (.bl false))))
 .nil)
 .nil)
 (.cons (.ite (.isi (.var 1 "due") "int")
 (.cons (.ret (.bop .And (.cons (.isi (.var 0 "told") "int") (.cons (.not (.isi (.var 0 "told") "bool")) (.cons (.cmp .Eq (.var 0 "told") (.var 1 "due")) .nil)))))
 .nil)
 .nil)
 (.cons (.ite (.isi (.var 1 "due") "str")
 (.cons (.ret (.bop .And (.cons (.isi (.var 0 "told") "str") (.cons (.cmp .Eq (.var 0 "told") (.var 1 "due")) .nil))))
 .nil)
 .nil)
 (.cons (.ite (.isi (.var 1 "due") "tuple")
 (.cons (.ite (.bop .Or (.cons (.not (.isi (.var 0 "told") "tuple")) (.cons (.cmp .NotEq (.bi "len" (.cons (.var 0 "told") .nil)) (.bi "len" (.cons (.var 1 "due") .nil))) .nil)))
 (.cons (.ret (.bl false))
 .nil)
 .nil)
 (.cons (.loop (.nm 2 "k") (.rng1 (.bi "len" (.cons (.var 1 "due") .nil))) (b__law_same_1 g))
 (.cons (.ret (.bl true))
 .nil)))
 .nil)
 (.cons (.ret (.bop .And (.cons (.cmp .Is (.var 1 "due") .non) (.cons (.cmp .Is (.var 0 "told") .non) .nil))))
 .nil)))))
def gr__law_same : Nat → Fn J
  | 0 => fun _ _ => .stk
  | n + 1 => defn flds 3 (b__law_same (gr__law_same n))
def g__law_same : Fn J := gr__law_same 6
abbrev s_common_divisor : Stmt := top 9
def n_common_divisor : List Str := ["a", "b"]
def b_common_divisor_1 : E J :=
 (.cmp .Gt (.var 1 "b") (.int 0))
def b_common_divisor_2 : Sms J :=
 (.cons (.par 0 "a" 1 "b" (.cons (.var 1 "b") (.cons (.bin .Mod (.bi "int" (.cons (.var 0 "a") .nil)) (.var 1 "b")) .nil)))
 .nil)
def b_common_divisor : Sms J :=
 (.cons (.whl (fuelAt 1) b_common_divisor_1 b_common_divisor_2)
 (.cons (.ret (.var 0 "a"))
 .nil))
def g_common_divisor : Fn J := defn flds 2 b_common_divisor
abbrev s_is_share : Stmt := top 10
def n_is_share : List Str := ["value"]
def b_is_share : Sms J :=
 (.cons (.ite (.bop .Or (.cons (.not (.isi (.var 0 "value") "tuple")) (.cons (.cmp .NotEq (.bi "len" (.cons (.var 0 "value") .nil)) (.int 2)) (.cons (.not (.call sg_is_integer g_is_integer (.cons (.sub (.var 0 "value") (.int 0)) .nil))) (.cons (.not (.call sg_is_integer g_is_integer (.cons (.sub (.var 0 "value") (.int 1)) .nil))) .nil)))))
 (.cons (.ret (.bl false))
 .nil)
 .nil)
 (.cons (.ret (.bop .And (.cons (.cmp .Gt (.sub (.var 0 "value") (.int 1)) (.int 0)) (.cons (.cmp .Eq (.call sg_common_divisor g_common_divisor (.cons (.bi "abs" (.cons (.sub (.var 0 "value") (.int 0)) .nil)) (.cons (.sub (.var 0 "value") (.int 1)) .nil))) (.int 1)) .nil))))
 .nil))
def g_is_share : Fn J := defn flds 1 b_is_share
abbrev s__law_up : Stmt := top 34
def n__law_up : List Str := ["one"]
def b__law_up : Sms J :=
 (.cons (.ret (.neg (.bin .FloorDiv (.neg (.sub (.var 0 "one") (.int 0))) (.sub (.var 0 "one") (.int 1)))))
 .nil)
def g__law_up : Fn J := defn flds 1 b__law_up
abbrev s_rounded_up : Stmt := top 18
def n_rounded_up : List Str := ["one"]
def b_rounded_up : Sms J :=
 (.cons (.ret (.neg (.bin .FloorDiv (.neg (.sub (.var 0 "one") (.int 0))) (.sub (.var 0 "one") (.int 1)))))
 .nil)
def g_rounded_up : Fn J := defn flds 1 b_rounded_up
abbrev s_is_below : Stmt := top 16
def n_is_below : List Str := ["one", "other"]
def b_is_below : Sms J :=
 (.cons (.ret (.cmp .Lt (.bin .Mult (.sub (.var 0 "one") (.int 0)) (.sub (.var 1 "other") (.int 1))) (.bin .Mult (.sub (.var 1 "other") (.int 0)) (.sub (.var 0 "one") (.int 1)))))
 .nil)
def g_is_below : Fn J := defn flds 2 b_is_below
abbrev s_share_of : Stmt := top 11
def n_share_of : List Str := ["a", "b", "divisor"]
def b_share_of : Sms J :=
 (.cons (.ite (.cmp .Eq (.var 1 "b") (.int 0))
 (.cons (.rse "InvalidNumber" (.cons (.var 1 "b") .nil))
 .nil)
 .nil)
 (.cons (.asg (.nm 2 "divisor") (.call sg_common_divisor g_common_divisor (.cons (.bi "abs" (.cons (.var 0 "a") .nil)) (.cons (.bi "abs" (.cons (.var 1 "b") .nil)) .nil))))
 (.cons (.ite (.cmp .Lt (.var 1 "b") (.int 0))
 (.cons (.asg (.nm 2 "divisor") (.neg (.var 2 "divisor")))
 .nil)
 .nil)
 (.cons (.ret (.tup (.cons (.bin .FloorDiv (.var 0 "a") (.var 2 "divisor")) (.cons (.bin .FloorDiv (.var 1 "b") (.var 2 "divisor")) .nil))))
 .nil))))
def g_share_of : Fn J := defn flds 3 b_share_of
abbrev s_over : Stmt := top 15
def n_over : List Str := ["one", "other"]
def b_over : Sms J :=
 (.cons (.ite (.cmp .Eq (.sub (.var 1 "other") (.int 0)) (.int 0))
 (.cons (.rse "Undefined" (.cons (.str "nought") .nil))
 .nil)
 .nil)
 (.cons (.ret (.call sg_share_of g_share_of (.cons (.bin .Mult (.sub (.var 0 "one") (.int 0)) (.sub (.var 1 "other") (.int 1))) (.cons (.bin .Mult (.sub (.var 0 "one") (.int 1)) (.sub (.var 1 "other") (.int 0))) .nil))))
 .nil))
def g_over : Fn J := defn flds 2 b_over
abbrev s__law_low : Stmt := top 29
def n__law_low : List Str := ["top", "bottom", "one", "two", "k", "rest"]
def b__law_low_1 : Sms J :=
 (.cons (.ite (.cmp .Eq (.var 3 "two") (.int 0))
 (.cons .brk
 .nil)
 .nil)
 (.cons (.asg (.nm 5 "rest") (.bin .Mod (.bi "int" (.cons (.var 2 "one") .nil)) (.var 3 "two")))
 (.cons (.asg (.nm 2 "one") (.var 3 "two"))
 (.cons (.asg (.nm 3 "two") (.var 5 "rest"))
 .nil))))
def b__law_low : Sms J :=
 (.cons (.asg (.nm 2 "one") (.bi "abs" (.cons (.var 0 "top") .nil)))
 (.cons (.asg (.nm 3 "two") (.bi "abs" (.cons (.var 1 "bottom") .nil)))
 (.cons (.loop (.nm 4 "k") (.rng1 (.int 9000)) b__law_low_1)
 (.cons (.ite (.cmp .Lt (.var 1 "bottom") (.int 0))
 (.cons (.ret (.tup (.cons (.bin .FloorDiv (.neg (.var 0 "top")) (.var 2 "one")) (.cons (.bin .FloorDiv (.neg (.var 1 "bottom")) (.var 2 "one")) .nil))))
 .nil)
 .nil)
 (.cons (.ret (.tup (.cons (.bin .FloorDiv (.var 0 "top") (.var 2 "one")) (.cons (.bin .FloorDiv (.var 1 "bottom") (.var 2 "one")) .nil))))
 .nil)))))
def g__law_low : Fn J := defn flds 6 b__law_low
abbrev s_times : Stmt := top 14
def n_times : List Str := ["one", "other"]
def b_times : Sms J :=
 (.cons (.ret (.call sg_share_of g_share_of (.cons (.bin .Mult (.sub (.var 0 "one") (.int 0)) (.sub (.var 1 "other") (.int 0))) (.cons (.bin .Mult (.sub (.var 0 "one") (.int 1)) (.sub (.var 1 "other") (.int 1))) .nil))))
 .nil)
def g_times : Fn J := defn flds 2 b_times
abbrev s_less : Stmt := top 13
def n_less : List Str := ["one", "other"]
def b_less : Sms J :=
 (.cons (.ret (.call sg_share_of g_share_of (.cons (.bin .Sub (.bin .Mult (.sub (.var 0 "one") (.int 0)) (.sub (.var 1 "other") (.int 1))) (.bin .Mult (.sub (.var 1 "other") (.int 0)) (.sub (.var 0 "one") (.int 1)))) (.cons (.bin .Mult (.sub (.var 0 "one") (.int 1)) (.sub (.var 1 "other") (.int 1))) .nil))))
 .nil)
def g_less : Fn J := defn flds 2 b_less
abbrev s__law_sum : Stmt := top 33
def n__law_sum : List Str := ["one", "other"]
def b__law_sum : Sms J :=
 (.cons (.ret (.call sg__law_low g__law_low (.cons (.bin .Add (.bin .Mult (.sub (.var 0 "one") (.int 0)) (.sub (.var 1 "other") (.int 1))) (.bin .Mult (.sub (.var 1 "other") (.int 0)) (.sub (.var 0 "one") (.int 1)))) (.cons (.bin .Mult (.sub (.var 0 "one") (.int 1)) (.sub (.var 1 "other") (.int 1))) .nil))))
 .nil)
def g__law_sum : Fn J := defn flds 2 b__law_sum
abbrev s_plus : Stmt := top 12
def n_plus : List Str := ["one", "other"]
def b_plus : Sms J :=
 (.cons (.ret (.call sg_share_of g_share_of (.cons (.bin .Add (.bin .Mult (.sub (.var 0 "one") (.int 0)) (.sub (.var 1 "other") (.int 1))) (.bin .Mult (.sub (.var 1 "other") (.int 0)) (.sub (.var 0 "one") (.int 1)))) (.cons (.bin .Mult (.sub (.var 0 "one") (.int 1)) (.sub (.var 1 "other") (.int 1))) .nil))))
 .nil)
def g_plus : Fn J := defn flds 2 b_plus
abbrev s__law_pick : Stmt := top 27
def n__law_pick : List Str := ["hand", "many", "great", "told", "rest", "mixed"]
def b__law_pick : Sms J :=
 (.cons (.bset setL (.var 0 "hand") (.int 2) (.bin .Add (.bix id (.var 0 "hand") (.int 2)) (.int 1)))
 (.cons (.asg (.nm 2 "great") (.bix id (.var 0 "hand") (.int 0)))
 (.cons (.ite (.cmp .Gt (.bi "len" (.cons (.var 2 "great") .nil)) (.int 0))
 (.cons (.asg (.nm 3 "told") (.bin .Mod (.bi "int" (.cons (.sub (.var 2 "great") (.int 0)) .nil)) (.var 1 "many")))
 (.cons (.asg (.nm 4 "rest") (.bin .FloorDiv (.sub (.var 2 "great") (.int 0)) (.var 1 "many")))
 (.cons (.ite (.cmp .Gt (.var 4 "rest") (.int 0))
 (.cons (.bset setL (.var 0 "hand") (.int 0) (.bin .Add (.lst (.cons (.var 4 "rest") .nil)) (.slc (.var 2 "great") (.int 1) .skip)))
 .nil)
 (.cons (.bset setL (.var 0 "hand") (.int 0) (.slc (.var 2 "great") (.int 1) .skip))
 .nil))
 (.cons (.ret (.var 3 "told"))
 .nil))))
 .nil)
 (.cons (.asg (.nm 5 "mixed") (.bin .Mod (.bi "int" (.cons (.bin .Add (.bin .Add (.bin .Mult (.bix id (.var 0 "hand") (.int 1)) (.int 48271)) (.bin .Mult (.bix id (.var 0 "hand") (.int 2)) (.int 1009))) (.int 1)) .nil)) (.int 2147483647)))
 (.cons (.bset setL (.var 0 "hand") (.int 1) (.var 5 "mixed"))
 (.cons (.ret (.bin .Mod (.bi "int" (.cons (.bin .Add (.bin .FloorDiv (.var 5 "mixed") (.int 7)) (.bin .FloorDiv (.var 5 "mixed") (.int 32749))) .nil)) (.var 1 "many")))
 .nil))))))
def g__law_pick : Fn J := defn flds 6 b__law_pick
abbrev s__law_number : Stmt := top 30
def n__law_number : List Str := ["hand", "kind", "told"]
def b__law_number : Sms J :=
 (.cons (.asg (.nm 1 "kind") (.call sg__law_pick g__law_pick (.cons (.var 0 "hand") (.cons (.int 6) .nil))))
 (.cons (.asg (.nm 2 "told") (.call sg__law_pick g__law_pick (.cons (.var 0 "hand") (.cons (.int 3) .nil))))
 (.cons (.ite (.cmp .Eq (.var 1 "kind") (.int 1))
 (.cons (.asg (.nm 2 "told") (.call sg__law_pick g__law_pick (.cons (.var 0 "hand") (.cons (.int 13) .nil))))
 .nil)
 .nil)
 (.cons (.ite (.cmp .Eq (.var 1 "kind") (.int 2))
 (.cons (.asg (.nm 2 "told") (.call sg__law_pick g__law_pick (.cons (.var 0 "hand") (.cons (.int 5000) .nil))))
 .nil)
 .nil)
 (.cons (.ite (.cmp .Eq (.var 1 "kind") (.int 3))
 (.cons (.asg (.nm 2 "told") (.bin .Sub (.int 999999999999) (.call sg__law_pick g__law_pick (.cons (.var 0 "hand") (.cons (.int 40) .nil)))))
 .nil)
 .nil)
 (.cons (.ite (.cmp .Eq (.var 1 "kind") (.int 4))
 (.cons (.asg (.nm 2 "told") (.call sg__law_pick g__law_pick (.cons (.var 0 "hand") (.cons (.bin .Pow (.int 10) (.int 12)) .nil))))
 .nil)
 .nil)
 (.cons (.ite (.cmp .Eq (.var 1 "kind") (.int 5))
 (.cons (.asg (.nm 2 "told") (.bin .Mult (.int 30030) (.bin .Add (.int 1) (.call sg__law_pick g__law_pick (.cons (.var 0 "hand") (.cons (.int 30) .nil))))))
 .nil)
 .nil)
 (.cons (.ite (.cmp .Eq (.call sg__law_pick g__law_pick (.cons (.var 0 "hand") (.cons (.int 2) .nil))) (.int 0))
 (.cons (.ret (.neg (.var 2 "told")))
 .nil)
 .nil)
 (.cons (.ret (.var 2 "told"))
 .nil)))))))))
def g__law_number : Fn J := defn flds 3 b__law_number
abbrev s__law_share : Stmt := top 31
def n__law_share : List Str := ["hand", "bottom"]
def b__law_share : Sms J :=
 (.cons (.asg (.nm 1 "bottom") (.bi "abs" (.cons (.call sg__law_number g__law_number (.cons (.var 0 "hand") .nil)) .nil)))
 (.cons (.ret (.call sg__law_low g__law_low (.cons (.call sg__law_number g__law_number (.cons (.var 0 "hand") .nil)) (.cons (.bi "max" (.cons (.int 1) (.cons (.var 1 "bottom") .nil))) .nil))))
 .nil))
def g__law_share : Fn J := defn flds 2 b__law_share
abbrev s__law_second : Stmt := top 32
def n__law_second : List Str := ["hand", "one", "kind", "other"]
def b__law_second : Sms J :=
 (.cons (.asg (.nm 2 "kind") (.call sg__law_pick g__law_pick (.cons (.var 0 "hand") (.cons (.int 6) .nil))))
 (.cons (.asg (.nm 3 "other") (.call sg__law_share g__law_share (.cons (.var 0 "hand") .nil)))
 (.cons (.ite (.cmp .Eq (.var 2 "kind") (.int 1))
 (.cons (.ret (.var 1 "one"))
 .nil)
 .nil)
 (.cons (.ite (.cmp .Eq (.var 2 "kind") (.int 2))
 (.cons (.ret (.tup (.cons (.neg (.sub (.var 1 "one") (.int 0))) (.cons (.sub (.var 1 "one") (.int 1)) .nil))))
 .nil)
 .nil)
 (.cons (.ite (.cmp .Eq (.var 2 "kind") (.int 3))
 (.cons (.ret (.call sg__law_low g__law_low (.cons (.sub (.var 3 "other") (.int 0)) (.cons (.sub (.var 1 "one") (.int 1)) .nil))))
 .nil)
 .nil)
 (.cons (.ite (.bop .And (.cons (.cmp .Eq (.var 2 "kind") (.int 4)) (.cons (.cmp .NotEq (.sub (.var 1 "one") (.int 0)) (.int 0)) .nil)))
 (.cons (.ret (.call sg__law_low g__law_low (.cons (.sub (.var 1 "one") (.int 1)) (.cons (.sub (.var 1 "one") (.int 0)) .nil))))
 .nil)
 .nil)
 (.cons (.ret (.var 3 "other"))
 .nil)))))))
def g__law_second : Fn J := defn flds 4 b__law_second
abbrev s__law_chain_right : Stmt := top 40
def n__law_chain_right : List Str := ["hand", "one", "told", "due", "k", "other", "deed"]
def b__law_chain_right_1 : Sms J :=
 (.cons (.asg (.nm 5 "other") (.call sg__law_second g__law_second (.cons (.var 0 "hand") (.cons (.var 1 "one") .nil))))
 (.cons (.asg (.nm 6 "deed") (.call sg__law_pick g__law_pick (.cons (.var 0 "hand") (.cons (.int 4) .nil))))
 (.cons (.ite (.bop .And (.cons (.cmp .Eq (.var 6 "deed") (.int 3)) (.cons (.cmp .Eq (.sub (.var 5 "other") (.int 0)) (.int 0)) .nil)))
 (.cons (.asg (.nm 6 "deed") (.int 0))
 .nil)
 .nil)
 (.cons (.ite (.cmp .Eq (.var 6 "deed") (.int 0))
 (.cons (.asg (.nm 3 "due") (.call sg__law_sum g__law_sum (.cons (.var 3 "due") (.cons (.var 5 "other") .nil))))
 (.cons (.asg (.nm 2 "told") (.call sg_plus g_plus (.cons (.var 2 "told") (.cons (.var 5 "other") .nil))))
 .nil))
 .nil)
 (.cons (.ite (.cmp .Eq (.var 6 "deed") (.int 1))
 (.cons (.asg (.nm 3 "due") (.call sg__law_sum g__law_sum (.cons (.var 5 "other") (.cons (.tup (.cons (.neg (.sub (.var 3 "due") (.int 0))) (.cons (.sub (.var 3 "due") (.int 1)) .nil))) .nil))))
 (.cons (.asg (.nm 2 "told") (.call sg_less g_less (.cons (.var 5 "other") (.cons (.var 2 "told") .nil))))
 .nil))
 .nil)
 (.cons (.ite (.cmp .Eq (.var 6 "deed") (.int 2))
 (.cons (.asg (.nm 3 "due") (.call sg__law_low g__law_low (.cons (.bin .Mult (.sub (.var 3 "due") (.int 0)) (.sub (.var 5 "other") (.int 0))) (.cons (.bin .Mult (.sub (.var 3 "due") (.int 1)) (.sub (.var 5 "other") (.int 1))) .nil))))
 (.cons (.asg (.nm 2 "told") (.call sg_times g_times (.cons (.var 2 "told") (.cons (.var 5 "other") .nil))))
 .nil))
 .nil)
 (.cons (.ite (.cmp .Eq (.var 6 "deed") (.int 3))
 (.cons (.asg (.nm 3 "due") (.call sg__law_low g__law_low (.cons (.bin .Mult (.sub (.var 3 "due") (.int 0)) (.sub (.var 5 "other") (.int 1))) (.cons (.bin .Mult (.sub (.var 3 "due") (.int 1)) (.sub (.var 5 "other") (.int 0))) .nil))))
 (.cons (.asg (.nm 2 "told") (.call sg_over g_over (.cons (.var 2 "told") (.cons (.var 5 "other") .nil))))
 .nil))
 .nil)
 (.cons (.ite (.not (.call sg__law_same g__law_same (.cons (.var 2 "told") (.cons (.var 3 "due") .nil))))
 (.cons (.ret (.bl false))
 .nil)
 .nil)
 .nil))))))))
def b__law_chain_right : Sms J :=
 (.cons (.asg (.nm 2 "told") (.var 1 "one"))
 (.cons (.asg (.nm 3 "due") (.var 1 "one"))
 (.cons (.loop (.nm 4 "k") (.rng1 (.int 5)) b__law_chain_right_1)
 (.cons (.ite (.not (.call sg__law_same g__law_same (.cons (.call sg_is_below g_is_below (.cons (.var 2 "told") (.cons (.var 1 "one") .nil))) (.cons (.cmp .Lt (.bin .Mult (.sub (.var 3 "due") (.int 0)) (.sub (.var 1 "one") (.int 1))) (.bin .Mult (.sub (.var 1 "one") (.int 0)) (.sub (.var 3 "due") (.int 1)))) .nil))))
 (.cons (.ret (.bl false))
 .nil)
 .nil)
 (.cons (.ret (.bop .And (.cons (.call sg__law_same g__law_same (.cons (.call sg_rounded_up g_rounded_up (.cons (.var 2 "told") .nil)) (.cons (.call sg__law_up g__law_up (.cons (.var 3 "due") .nil)) .nil))) (.cons (.call sg__law_same g__law_same (.cons (.call sg_is_share g_is_share (.cons (.var 2 "told") .nil)) (.cons (.bl true) .nil))) .nil))))
 .nil)))))
def g__law_chain_right : Fn J := defn flds 7 b__law_chain_right
abbrev s_total_of : Stmt := top 17
def n_total_of : List Str := ["shares", "total", "share"]
def b_total_of_1 : Sms J :=
 (.cons (.asg (.nm 1 "total") (.call sg_plus g_plus (.cons (.var 1 "total") (.cons (.var 2 "share") .nil))))
 .nil)
def b_total_of : Sms J :=
 (.cons (.asg (.nm 1 "total") (.tup (.cons (.int 0) (.cons (.int 1) .nil))))
 (.cons (.loop (.nm 2 "share") (.var 0 "shares") b_total_of_1)
 (.cons (.ret (.var 1 "total"))
 .nil)))
def g_total_of : Fn J := defn flds 3 b_total_of
abbrev s__law_total_right : Stmt := top 39
def n__law_total_right : List Str := ["shares", "due", "one", "handed"]
def b__law_total_right_1 : Sms J :=
 (.cons (.asg (.nm 1 "due") (.call sg__law_sum g__law_sum (.cons (.var 1 "due") (.cons (.var 2 "one") .nil))))
 .nil)
def b__law_total_right : Sms J :=
 (.cons (.asg (.nm 1 "due") (.tup (.cons (.int 0) (.cons (.int 1) .nil))))
 (.cons (.loop (.nm 2 "one") (.var 0 "shares") b__law_total_right_1)
 (.cons (.asg (.nm 3 "handed") (.bi "list" (.cons (.var 0 "shares") .nil)))
 (.cons (.ite (.bop .Or (.cons (.not (.call sg__law_same g__law_same (.cons (.call sg_total_of g_total_of (.cons (.var 3 "handed") .nil)) (.cons (.var 1 "due") .nil)))) (.cons (.not (.call sg__law_same g__law_same (.cons (.call sg_total_of g_total_of (.cons (.bi "tuple" (.cons (.var 0 "shares") .nil)) .nil)) (.cons (.var 1 "due") .nil)))) .nil)))
 (.cons (.ret (.bl false))
 .nil)
 .nil)
 (.cons (.ite (.not (.call sg__law_same g__law_same (.cons (.callk sg_total_of ["shares"] g_total_of .nil (.cons (.rev (.var 0 "shares")) .nil)) (.cons (.var 1 "due") .nil))))
 (.cons (.ret (.bl false))
 .nil)
 .nil)
 (.cons (.ret (.rpe (.var 3 "handed") (.var 0 "shares")))
 .nil))))))
def g__law_total_right : Fn J := defn flds 4 b__law_total_right
abbrev s__law_is_share : Stmt := top 41
def n__law_is_share : List Str := ["value", "part"]
def b__law_is_share_1 : Sms J :=
 (.cons (.ite (.bop .Or (.cons (.not (.isi (.var 1 "part") "int")) (.cons (.isi (.var 1 "part") "bool") .nil)))
 (.cons (.ret (.bl false))
 .nil)
 .nil)
 .nil)
def b__law_is_share : Sms J :=
 (.cons (.ite (.bop .Or (.cons (.not (.isi (.var 0 "value") "tuple")) (.cons (.cmp .NotEq (.bi "len" (.cons (.var 0 "value") .nil)) (.int 2)) .nil)))
 (.cons (.ret (.bl false))
 .nil)
 .nil)
 (.cons (.loop (.nm 1 "part") (.var 0 "value") b__law_is_share_1)
 (.cons (.ret (.bop .And (.cons (.cmp .Gt (.sub (.var 0 "value") (.int 1)) (.int 0)) (.cons (.cmp .Eq (.sub (.call sg__law_low g__law_low (.cons (.sub (.var 0 "value") (.int 0)) (.cons (.sub (.var 0 "value") (.int 1)) .nil))) (.int 1)) (.sub (.var 0 "value") (.int 1))) .nil))))
 .nil)))
def g__law_is_share : Fn J := defn flds 2 b__law_is_share
abbrev s__law_values_right : Stmt := top 42
def n__law_values_right : List Str := ["one", "rules", "a", "b", "values", "value"]
def b__law_values_right_1 : Sms J :=
 (.cons (.ite (.not (.call sg__law_same g__law_same (.cons (.call sg_is_share g_is_share (.cons (.var 5 "value") .nil)) (.cons (.call sg__law_is_share g__law_is_share (.cons (.var 5 "value") .nil)) .nil))))
 (.cons (.ret (.bl false))
 .nil)
 .nil)
 .nil)
def b__law_values_right : Sms J :=
 (.cons (.asg (.nm 1 "rules") (.call sg_Rules g_Rules (.cons (.int 1) (.cons (.lst (.cons (.tup (.cons (.int 0) .nil)) (.cons (.tup (.cons (.int 1) .nil)) .nil))) .nil))))
 (.cons (.asg (.nm 2 "a") (.sub (.var 0 "one") (.int 0)))
 (.cons (.asg (.nm 3 "b") (.sub (.var 0 "one") (.int 1)))
 (.cons (.asg (.nm 4 "values") (.lst (.cons (.var 0 "one") (.cons (.tup (.cons (.bin .Mult (.var 2 "a") (.int 6)) (.cons (.bin .Mult (.var 3 "b") (.int 6)) .nil))) (.cons (.tup (.cons (.var 2 "a") (.cons (.neg (.var 3 "b")) .nil))) (.cons (.tup (.cons (.neg (.var 2 "a")) (.cons (.neg (.var 3 "b")) .nil))) (.cons (.tup (.cons (.var 2 "a") (.cons (.int 0) .nil))) (.cons (.tup (.cons (.var 3 "b") (.cons (.var 2 "a") .nil))) (.cons (.lst (.cons (.var 2 "a") (.cons (.var 3 "b") .nil))) (.cons (.tup (.cons (.var 2 "a") (.cons (.var 3 "b") (.cons (.int 1) .nil)))) (.cons (.tup (.cons (.var 2 "a") .nil)) (.cons (.tup .nil) (.cons (.tup (.cons (.var 0 "one") (.cons (.var 0 "one") .nil))) .nil)))))))))))))
 (.cons (.asg (.nm 4 "values") (.bin .Add (.var 4 "values") (.lst (.cons (.tup (.cons (.int 1) (.cons (.int 1) .nil))) (.cons (.tup (.cons (.bl true) (.cons (.int 1) .nil))) (.cons (.tup (.cons (.int 1) (.cons (.bl true) .nil))) (.cons (.tup (.cons (.int 1) (.cons (.int 1) .nil))) (.cons (.tup (.cons (.int 0) (.cons (.int 1) .nil))) (.cons (.tup (.cons (.bl false) (.cons (.int 1) .nil))) (.cons (.tup (.cons (.int 0) (.cons (.bl true) .nil))) (.cons (.tup (.cons (.int 0) (.cons (.int 1) .nil))) (.cons (.tup (.cons (.int 0) (.cons (.int 2) .nil))) (.cons (.tup (.cons (.int 0) (.cons (.neg (.int 1)) .nil))) (.cons (.tup (.cons (.int 0) (.cons (.int 0) .nil))) .nil))))))))))))))
 (.cons (.asg (.nm 4 "values") (.bin .Add (.var 4 "values") (.lst (.cons (.tup (.cons (.neg (.int 3)) (.cons (.int 2) .nil))) (.cons (.tup (.cons (.int 3) (.cons (.neg (.int 2)) .nil))) (.cons (.tup (.cons (.neg (.int 4)) (.cons (.int 6) .nil))) (.cons (.tup (.cons .non (.cons (.int 1) .nil))) (.cons (.tup (.cons (.int 1) (.cons .non .nil))) (.cons (.tup (.cons (.str "1") (.cons (.str "2") .nil))) (.cons (.tup (.cons (.int 1) (.cons (.lst (.cons (.int 2) .nil)) .nil))) (.cons (.tup (.cons (.tup (.cons (.int 1) .nil)) (.cons (.int 2) .nil))) (.cons (.str "1/2") (.cons (.str "") (.cons (.int 1) (.cons (.int 0) .nil)))))))))))))))
 (.cons (.asg (.nm 4 "values") (.bin .Add (.var 4 "values") (.lst (.cons (.bl true) (.cons (.bl false) (.cons .non (.cons (.lst .nil) (.cons (.lst (.cons (.var 0 "one") .nil)) (.cons (.var 1 "rules") (.cons (.tup (.cons (.var 1 "rules") (.cons (.int 1) .nil))) (.cons (.tup (.cons (.int 1) (.cons (.var 1 "rules") .nil))) (.cons (.tup (.cons (.int 1) (.cons (.int 1) .nil))) .nil))))))))))))
 (.cons (.loop (.nm 5 "value") (.var 4 "values") b__law_values_right_1)
 (.cons (.ret (.call sg__law_same g__law_same (.cons (.callk sg_is_share ["value"] g_is_share .nil (.cons (.var 0 "one") .nil)) (.cons (.bl true) .nil))))
 .nil)))))))))
def g__law_values_right : Fn J := defn flds 6 b__law_values_right
abbrev s__law_bottom_refused : Stmt := top 37
def n__law_bottom_refused : List Str := ["top", "e"]
def b__law_bottom_refused : Sms J :=
 (.cons (.try1 (.cons (.exp (.call sg_share_of g_share_of (.cons (.var 0 "top") (.cons (.int 0) .nil))))
 .nil) "InvalidNumber" yes_InvalidNumber 1 "e" (.cons (.ret (.call sg__law_same g__law_same (.cons (.xf 1 "e" "value") (.cons (.int 0) .nil))))
 .nil))
 (.cons (.ret (.bl false))
 .nil))
def g__law_bottom_refused : Fn J := defn flds 2 b__law_bottom_refused
abbrev s__law_made_right : Stmt := top 38
def n__law_made_right : List Str := ["hand", "k", "top", "bottom", "due"]
def b__law_made_right_1 : Sms J :=
 (.cons (.asg (.nm 2 "top") (.call sg__law_number g__law_number (.cons (.var 0 "hand") .nil)))
 (.cons (.asg (.nm 3 "bottom") (.call sg__law_number g__law_number (.cons (.var 0 "hand") .nil)))
 (.cons (.ite (.cmp .Eq (.var 3 "bottom") (.int 0))
 (.cons (.ite (.not (.call sg__law_bottom_refused g__law_bottom_refused (.cons (.var 2 "top") .nil)))
 (.cons (.ret (.bl false))
 .nil)
 .nil)
 .nil)
 (.cons (.asg (.nm 4 "due") (.call sg__law_low g__law_low (.cons (.var 2 "top") (.cons (.var 3 "bottom") .nil))))
 (.cons (.ite (.bop .Or (.cons (.not (.call sg__law_same g__law_same (.cons (.call sg_share_of g_share_of (.cons (.var 2 "top") (.cons (.var 3 "bottom") .nil))) (.cons (.var 4 "due") .nil)))) (.cons (.not (.call sg__law_same g__law_same (.cons (.callk sg_share_of ["b", "a"] g_share_of .nil (.cons (.var 3 "bottom") (.cons (.var 2 "top") .nil))) (.cons (.var 4 "due") .nil)))) .nil)))
 (.cons (.ret (.bl false))
 .nil)
 .nil)
 .nil)))
 .nil)))
def b__law_made_right : Sms J :=
 (.cons (.loop (.nm 1 "k") (.rng1 (.int 4)) b__law_made_right_1)
 (.cons (.ret (.bop .And (.cons (.call sg__law_bottom_refused g__law_bottom_refused (.cons (.call sg__law_number g__law_number (.cons (.var 0 "hand") .nil)) .nil)) (.cons (.call sg__law_bottom_refused g__law_bottom_refused (.cons (.int 0) .nil)) .nil))))
 .nil))
def g__law_made_right : Fn J := defn flds 5 b__law_made_right
abbrev s__law_nought_refused : Stmt := top 35
def n__law_nought_refused : List Str := ["one", "nought", "e"]
def b__law_nought_refused : Sms J :=
 (.cons (.try1 (.cons (.exp (.call sg_over g_over (.cons (.var 0 "one") (.cons (.var 1 "nought") .nil))))
 .nil) "Undefined" yes_Undefined 2 "e" (.cons (.ret (.call sg__law_same g__law_same (.cons (.xf 2 "e" "what") (.cons (.str "nought") .nil))))
 .nil))
 (.cons (.ret (.bl false))
 .nil))
def g__law_nought_refused : Fn J := defn flds 3 b__law_nought_refused
abbrev s__law_pair_right : Stmt := top 36
def n__law_pair_right : List Str := ["one", "other", "a", "b", "c", "d"]
def b__law_pair_right : Sms J :=
 (.cons (.asg (.nm 2 "a") (.sub (.var 0 "one") (.int 0)))
 (.cons (.asg (.nm 3 "b") (.sub (.var 0 "one") (.int 1)))
 (.cons (.asg (.nm 4 "c") (.sub (.var 1 "other") (.int 0)))
 (.cons (.asg (.nm 5 "d") (.sub (.var 1 "other") (.int 1)))
 (.cons (.ite (.not (.call sg__law_same g__law_same (.cons (.call sg_plus g_plus (.cons (.var 0 "one") (.cons (.var 1 "other") .nil))) (.cons (.call sg__law_sum g__law_sum (.cons (.var 0 "one") (.cons (.var 1 "other") .nil))) .nil))))
 (.cons (.ret (.bl false))
 .nil)
 .nil)
 (.cons (.ite (.not (.call sg__law_same g__law_same (.cons (.call sg_less g_less (.cons (.var 0 "one") (.cons (.var 1 "other") .nil))) (.cons (.call sg__law_low g__law_low (.cons (.bin .Sub (.bin .Mult (.var 2 "a") (.var 5 "d")) (.bin .Mult (.var 4 "c") (.var 3 "b"))) (.cons (.bin .Mult (.var 3 "b") (.var 5 "d")) .nil))) .nil))))
 (.cons (.ret (.bl false))
 .nil)
 .nil)
 (.cons (.ite (.not (.call sg__law_same g__law_same (.cons (.callk sg_less ["other", "one"] g_less .nil (.cons (.var 0 "one") (.cons (.var 1 "other") .nil))) (.cons (.call sg__law_low g__law_low (.cons (.bin .Sub (.bin .Mult (.var 4 "c") (.var 3 "b")) (.bin .Mult (.var 2 "a") (.var 5 "d"))) (.cons (.bin .Mult (.var 3 "b") (.var 5 "d")) .nil))) .nil))))
 (.cons (.ret (.bl false))
 .nil)
 .nil)
 (.cons (.ite (.not (.call sg__law_same g__law_same (.cons (.callk sg_times ["other", "one"] g_times .nil (.cons (.var 1 "other") (.cons (.var 0 "one") .nil))) (.cons (.call sg__law_low g__law_low (.cons (.bin .Mult (.var 2 "a") (.var 4 "c")) (.cons (.bin .Mult (.var 3 "b") (.var 5 "d")) .nil))) .nil))))
 (.cons (.ret (.bl false))
 .nil)
 .nil)
 (.cons (.ite (.bop .Or (.cons (.not (.call sg__law_same g__law_same (.cons (.call sg_is_below g_is_below (.cons (.var 0 "one") (.cons (.var 1 "other") .nil))) (.cons (.cmp .Lt (.bin .Mult (.var 2 "a") (.var 5 "d")) (.bin .Mult (.var 4 "c") (.var 3 "b"))) .nil)))) (.cons (.not (.call sg__law_same g__law_same (.cons (.callk sg_is_below ["other", "one"] g_is_below .nil (.cons (.var 0 "one") (.cons (.var 1 "other") .nil))) (.cons (.cmp .Lt (.bin .Mult (.var 4 "c") (.var 3 "b")) (.bin .Mult (.var 2 "a") (.var 5 "d"))) .nil)))) .nil)))
 (.cons (.ret (.bl false))
 .nil)
 .nil)
 (.cons (.ite (.bop .Or (.cons (.not (.call sg__law_same g__law_same (.cons (.call sg_is_below g_is_below (.cons (.var 0 "one") (.cons (.var 0 "one") .nil))) (.cons (.bl false) .nil)))) (.cons (.not (.call sg__law_same g__law_same (.cons (.call sg_less g_less (.cons (.var 0 "one") (.cons (.var 0 "one") .nil))) (.cons (.tup (.cons (.int 0) (.cons (.int 1) .nil))) .nil)))) .nil)))
 (.cons (.ret (.bl false))
 .nil)
 .nil)
 (.cons (.ite (.bop .Or (.cons (.not (.call sg__law_same g__law_same (.cons (.call sg_rounded_up g_rounded_up (.cons (.var 0 "one") .nil)) (.cons (.call sg__law_up g__law_up (.cons (.var 0 "one") .nil)) .nil)))) (.cons (.not (.call sg__law_same g__law_same (.cons (.callk sg_rounded_up ["one"] g_rounded_up .nil (.cons (.var 1 "other") .nil)) (.cons (.call sg__law_up g__law_up (.cons (.var 1 "other") .nil)) .nil)))) .nil)))
 (.cons (.ret (.bl false))
 .nil)
 .nil)
 (.cons (.ite (.cmp .Eq (.var 4 "c") (.int 0))
 (.cons (.ret (.call sg__law_nought_refused g__law_nought_refused (.cons (.var 0 "one") (.cons (.var 1 "other") .nil))))
 .nil)
 .nil)
 (.cons (.ret (.call sg__law_same g__law_same (.cons (.call sg_over g_over (.cons (.var 0 "one") (.cons (.var 1 "other") .nil))) (.cons (.call sg__law_low g__law_low (.cons (.bin .Mult (.var 2 "a") (.var 5 "d")) (.cons (.bin .Mult (.var 3 "b") (.var 4 "c")) .nil))) .nil))))
 .nil)))))))))))))
def g__law_pair_right : Fn J := defn flds 6 b__law_pair_right
abbrev s__law_hand : Stmt := top 26
def n__law_hand : List Str := ["script", "cells", "great", "mixed", "cell"]
def b__law_hand_1 : Sms J :=
 (.cons (.asg (.nm 3 "mixed") (.bin .Mod (.bi "int" (.cons (.bin .Add (.bin .Add (.bin .Mult (.var 3 "mixed") (.int 69069)) (.bin .Mod (.bi "int" (.cons (.var 4 "cell") .nil)) (.int 2147483629))) (.int 7)) .nil)) (.int 2147483629)))
 .nil)
def b__law_hand_2 : E J :=
 (.bi "abs" (.cons (.var 4 "cell") .nil))
def b__law_hand_3 : Es J :=
 (.cons (.cmp .GtE (.bi "abs" (.cons (.var 4 "cell") .nil)) (.bin .Pow (.int 10) (.int 18))) .nil)
def b__law_hand_4 : E J :=
 (.bi "int" (.cons (.var 4 "cell") .nil))
def b__law_hand_5 : Es J :=
 .nil
def b__law_hand : Sms J :=
 (.cons (.asg (.nm 1 "cells") (.lc b__law_hand_4 (.nm 4 "cell") (.slc (.var 0 "script") .skip (.int 63)) b__law_hand_5 [("cell", 4)]))
 (.cons (.asg (.nm 2 "great") (.lc b__law_hand_2 (.nm 4 "cell") (.var 1 "cells") b__law_hand_3 [("cell", 4)]))
 (.cons (.asg (.nm 3 "mixed") (.int 90001))
 (.cons (.loop (.nm 4 "cell") (.var 1 "cells") b__law_hand_1)
 (.cons (.ret (.lst (.cons (.var 2 "great") (.cons (.var 3 "mixed") (.cons (.int 0) .nil)))))
 .nil)))))
def g0__law_hand : Fn J := defn flds 5 b__law_hand
def g__law_hand : Fn J := jar g0__law_hand
abbrev s__law_all : Stmt := top 43
def n__law_all : List Str := ["script", "hand", "shares", "one", "k", "other"]
def b__law_all_1 : Sms J :=
 (.cons (.asg (.nm 3 "one") (.call sg__law_share g__law_share (.cons (.var 1 "hand") .nil)))
 (.cons (.asg (.nm 5 "other") (.call sg__law_second g__law_second (.cons (.var 1 "hand") (.cons (.var 3 "one") .nil))))
 (.cons (.ite (.bop .Or (.cons (.not (.call sg__law_pair_right g__law_pair_right (.cons (.var 3 "one") (.cons (.var 5 "other") .nil)))) (.cons (.not (.call sg__law_pair_right g__law_pair_right (.cons (.var 3 "one") (.cons (.tup (.cons (.int 0) (.cons (.int 1) .nil))) .nil)))) .nil)))
 (.cons (.ret (.bl false))
 .nil)
 .nil)
 (.cons (.asg (.nm 2 "shares") (.bin .Add (.var 2 "shares") (.lst (.cons (.var 3 "one") (.cons (.var 5 "other") .nil)))))
 .nil))))
def b__law_all : Sms J :=
 (.cons (.asg (.nm 1 "hand") (.call sg__law_hand g__law_hand (.cons (.var 0 "script") .nil)))
 (.cons (.asg (.nm 2 "shares") (.lst .nil))
 (.cons (.asg (.nm 3 "one") (.tup (.cons (.int 0) (.cons (.int 1) .nil))))
 (.cons (.loop (.nm 4 "k") (.rng1 (.int 3)) b__law_all_1)
 (.cons (.ite (.bop .Or (.cons (.not (.call sg__law_made_right g__law_made_right (.cons (.var 1 "hand") .nil))) (.cons (.not (.call sg__law_values_right g__law_values_right (.cons (.var 3 "one") .nil))) .nil)))
 (.cons (.ret (.bl false))
 .nil)
 .nil)
 (.cons (.ite (.bop .Or (.cons (.not (.call sg__law_total_right g__law_total_right (.cons (.slc (.var 2 "shares") .skip (.call sg__law_pick g__law_pick (.cons (.var 1 "hand") (.cons (.int 7) .nil)))) .nil))) (.cons (.not (.call sg__law_total_right g__law_total_right (.cons (.lst .nil) .nil))) .nil)))
 (.cons (.ret (.bl false))
 .nil)
 .nil)
 (.cons (.ret (.call sg__law_chain_right g__law_chain_right (.cons (.var 1 "hand") (.cons (.var 3 "one") .nil))))
 .nil)))))))
def g__law_all : Fn J := defn flds 6 b__law_all
abbrev s_law : Stmt := top 44
def n_law : List Str := ["script"]
def b_law : Sms J :=
 (.cons (.try0 (.cons (.ret (.call sg__law_all g__law_all (.cons (.var 0 "script") .nil)))
 .nil) "GuessError" yes_GuessError (.cons (.ret (.bl false))
 .nil))
 .nil)
def g_law : Fn J := defn flds 1 b_law
theorem m_is_integer : mSs false (defScope s_is_integer) n_is_integer b_is_integer (defBody s_is_integer) = true := by decide +kernel
theorem sc_is_integer : FnScope n_is_integer sg_is_integer.ps (defScope s_is_integer) := ⟨rfl, rfl, rfl, by decide +kernel, rfl, by decide +kernel, by decide +kernel⟩
theorem m_is_value : mSs false (defScope s_is_value) n_is_value b_is_value (defBody s_is_value) = true := by decide +kernel
theorem sc_is_value : FnScope n_is_value sg_is_value.ps (defScope s_is_value) := ⟨rfl, rfl, rfl, by decide +kernel, rfl, by decide +kernel, by decide +kernel⟩
theorem m_is_row : mSs false (defScope s_is_row) n_is_row b_is_row (defBody s_is_row) = true := by decide +kernel
theorem sc_is_row : FnScope n_is_row sg_is_row.ps (defScope s_is_row) := ⟨rfl, rfl, rfl, by decide +kernel, rfl, by decide +kernel, by decide +kernel⟩
theorem m_is_number : mSs false (defScope s_is_number) n_is_number b_is_number (defBody s_is_number) = true := by decide +kernel
theorem sc_is_number : FnScope n_is_number sg_is_number.ps (defScope s_is_number) := ⟨rfl, rfl, rfl, by decide +kernel, rfl, by decide +kernel, by decide +kernel⟩
theorem m_are_rows : mSs false (defScope s_are_rows) n_are_rows b_are_rows (defBody s_are_rows) = true := by decide +kernel
theorem sc_are_rows : FnScope n_are_rows sg_are_rows.ps (defScope s_are_rows) := ⟨rfl, rfl, rfl, by decide +kernel, rfl, by decide +kernel, by decide +kernel⟩
theorem m__law_same (g : Fn J) : mSs false (defScope s__law_same) n__law_same (b__law_same g) (defBody s__law_same) = true := by kernel_rfl
theorem mh__law_same (g : Fn J) : mSs true (defScope s__law_same) n__law_same (b__law_same g) (defBody s__law_same) = true := by kernel_rfl
theorem sc__law_same : FnScope n__law_same sg__law_same.ps (defScope s__law_same) := ⟨rfl, rfl, rfl, by decide +kernel, rfl, by decide +kernel, by decide +kernel⟩
theorem m_common_divisor : mSs false (defScope s_common_divisor) n_common_divisor b_common_divisor (defBody s_common_divisor) = true := by decide +kernel
theorem sc_common_divisor : FnScope n_common_divisor sg_common_divisor.ps (defScope s_common_divisor) := ⟨rfl, rfl, rfl, by decide +kernel, rfl, by decide +kernel, by decide +kernel⟩
theorem m_is_share : mSs false (defScope s_is_share) n_is_share b_is_share (defBody s_is_share) = true := by decide +kernel
theorem sc_is_share : FnScope n_is_share sg_is_share.ps (defScope s_is_share) := ⟨rfl, rfl, rfl, by decide +kernel, rfl, by decide +kernel, by decide +kernel⟩
theorem m__law_up : mSs false (defScope s__law_up) n__law_up b__law_up (defBody s__law_up) = true := by decide +kernel
theorem sc__law_up : FnScope n__law_up sg__law_up.ps (defScope s__law_up) := ⟨rfl, rfl, rfl, by decide +kernel, rfl, by decide +kernel, by decide +kernel⟩
theorem m_rounded_up : mSs false (defScope s_rounded_up) n_rounded_up b_rounded_up (defBody s_rounded_up) = true := by decide +kernel
theorem sc_rounded_up : FnScope n_rounded_up sg_rounded_up.ps (defScope s_rounded_up) := ⟨rfl, rfl, rfl, by decide +kernel, rfl, by decide +kernel, by decide +kernel⟩
theorem m_is_below : mSs false (defScope s_is_below) n_is_below b_is_below (defBody s_is_below) = true := by decide +kernel
theorem sc_is_below : FnScope n_is_below sg_is_below.ps (defScope s_is_below) := ⟨rfl, rfl, rfl, by decide +kernel, rfl, by decide +kernel, by decide +kernel⟩
theorem m_share_of : mSs false (defScope s_share_of) n_share_of b_share_of (defBody s_share_of) = true := by decide +kernel
theorem sc_share_of : FnScope n_share_of sg_share_of.ps (defScope s_share_of) := ⟨rfl, rfl, rfl, by decide +kernel, rfl, by decide +kernel, by decide +kernel⟩
theorem m_over : mSs false (defScope s_over) n_over b_over (defBody s_over) = true := by decide +kernel
theorem sc_over : FnScope n_over sg_over.ps (defScope s_over) := ⟨rfl, rfl, rfl, by decide +kernel, rfl, by decide +kernel, by decide +kernel⟩
theorem m__law_low : mSs false (defScope s__law_low) n__law_low b__law_low (defBody s__law_low) = true := by decide +kernel
theorem sc__law_low : FnScope n__law_low sg__law_low.ps (defScope s__law_low) := ⟨rfl, rfl, rfl, by decide +kernel, rfl, by decide +kernel, by decide +kernel⟩
theorem m_times : mSs false (defScope s_times) n_times b_times (defBody s_times) = true := by decide +kernel
theorem sc_times : FnScope n_times sg_times.ps (defScope s_times) := ⟨rfl, rfl, rfl, by decide +kernel, rfl, by decide +kernel, by decide +kernel⟩
theorem m_less : mSs false (defScope s_less) n_less b_less (defBody s_less) = true := by decide +kernel
theorem sc_less : FnScope n_less sg_less.ps (defScope s_less) := ⟨rfl, rfl, rfl, by decide +kernel, rfl, by decide +kernel, by decide +kernel⟩
theorem m__law_sum : mSs false (defScope s__law_sum) n__law_sum b__law_sum (defBody s__law_sum) = true := by decide +kernel
theorem sc__law_sum : FnScope n__law_sum sg__law_sum.ps (defScope s__law_sum) := ⟨rfl, rfl, rfl, by decide +kernel, rfl, by decide +kernel, by decide +kernel⟩
theorem m_plus : mSs false (defScope s_plus) n_plus b_plus (defBody s_plus) = true := by decide +kernel
theorem sc_plus : FnScope n_plus sg_plus.ps (defScope s_plus) := ⟨rfl, rfl, rfl, by decide +kernel, rfl, by decide +kernel, by decide +kernel⟩
theorem m__law_pick : mSs false (defScope s__law_pick) n__law_pick b__law_pick (defBody s__law_pick) = true := by decide +kernel
theorem sc__law_pick : FnScope n__law_pick sg__law_pick.ps (defScope s__law_pick) := ⟨rfl, rfl, rfl, by decide +kernel, rfl, by decide +kernel, by decide +kernel⟩
theorem m__law_number : mSs false (defScope s__law_number) n__law_number b__law_number (defBody s__law_number) = true := by decide +kernel
theorem sc__law_number : FnScope n__law_number sg__law_number.ps (defScope s__law_number) := ⟨rfl, rfl, rfl, by decide +kernel, rfl, by decide +kernel, by decide +kernel⟩
theorem m__law_share : mSs false (defScope s__law_share) n__law_share b__law_share (defBody s__law_share) = true := by decide +kernel
theorem sc__law_share : FnScope n__law_share sg__law_share.ps (defScope s__law_share) := ⟨rfl, rfl, rfl, by decide +kernel, rfl, by decide +kernel, by decide +kernel⟩
theorem m__law_second : mSs false (defScope s__law_second) n__law_second b__law_second (defBody s__law_second) = true := by decide +kernel
theorem sc__law_second : FnScope n__law_second sg__law_second.ps (defScope s__law_second) := ⟨rfl, rfl, rfl, by decide +kernel, rfl, by decide +kernel, by decide +kernel⟩
theorem m__law_chain_right : mSs false (defScope s__law_chain_right) n__law_chain_right b__law_chain_right (defBody s__law_chain_right) = true := by decide +kernel
theorem sc__law_chain_right : FnScope n__law_chain_right sg__law_chain_right.ps (defScope s__law_chain_right) := ⟨rfl, rfl, rfl, by decide +kernel, rfl, by decide +kernel, by decide +kernel⟩
theorem m_total_of : mSs false (defScope s_total_of) n_total_of b_total_of (defBody s_total_of) = true := by decide +kernel
theorem sc_total_of : FnScope n_total_of sg_total_of.ps (defScope s_total_of) := ⟨rfl, rfl, rfl, by decide +kernel, rfl, by decide +kernel, by decide +kernel⟩
theorem m__law_total_right : mSs false (defScope s__law_total_right) n__law_total_right b__law_total_right (defBody s__law_total_right) = true := by decide +kernel
theorem sc__law_total_right : FnScope n__law_total_right sg__law_total_right.ps (defScope s__law_total_right) := ⟨rfl, rfl, rfl, by decide +kernel, rfl, by decide +kernel, by decide +kernel⟩
theorem m__law_is_share : mSs false (defScope s__law_is_share) n__law_is_share b__law_is_share (defBody s__law_is_share) = true := by decide +kernel
theorem sc__law_is_share : FnScope n__law_is_share sg__law_is_share.ps (defScope s__law_is_share) := ⟨rfl, rfl, rfl, by decide +kernel, rfl, by decide +kernel, by decide +kernel⟩
theorem m__law_values_right : mSs false (defScope s__law_values_right) n__law_values_right b__law_values_right (defBody s__law_values_right) = true := by decide +kernel
theorem sc__law_values_right : FnScope n__law_values_right sg__law_values_right.ps (defScope s__law_values_right) := ⟨rfl, rfl, rfl, by decide +kernel, rfl, by decide +kernel, by decide +kernel⟩
theorem m__law_bottom_refused : mSs false (defScope s__law_bottom_refused) n__law_bottom_refused b__law_bottom_refused (defBody s__law_bottom_refused) = true := by decide +kernel
theorem sc__law_bottom_refused : FnScope n__law_bottom_refused sg__law_bottom_refused.ps (defScope s__law_bottom_refused) := ⟨rfl, rfl, rfl, by decide +kernel, rfl, by decide +kernel, by decide +kernel⟩
theorem m__law_made_right : mSs false (defScope s__law_made_right) n__law_made_right b__law_made_right (defBody s__law_made_right) = true := by decide +kernel
theorem sc__law_made_right : FnScope n__law_made_right sg__law_made_right.ps (defScope s__law_made_right) := ⟨rfl, rfl, rfl, by decide +kernel, rfl, by decide +kernel, by decide +kernel⟩
theorem m__law_nought_refused : mSs false (defScope s__law_nought_refused) n__law_nought_refused b__law_nought_refused (defBody s__law_nought_refused) = true := by decide +kernel
theorem sc__law_nought_refused : FnScope n__law_nought_refused sg__law_nought_refused.ps (defScope s__law_nought_refused) := ⟨rfl, rfl, rfl, by decide +kernel, rfl, by decide +kernel, by decide +kernel⟩
theorem m__law_pair_right : mSs false (defScope s__law_pair_right) n__law_pair_right b__law_pair_right (defBody s__law_pair_right) = true := by decide +kernel
theorem sc__law_pair_right : FnScope n__law_pair_right sg__law_pair_right.ps (defScope s__law_pair_right) := ⟨rfl, rfl, rfl, by decide +kernel, rfl, by decide +kernel, by decide +kernel⟩
theorem m__law_hand : mSs false (defScope s__law_hand) n__law_hand b__law_hand (defBody s__law_hand) = true := by decide +kernel
theorem sc__law_hand : FnScope n__law_hand sg__law_hand.ps (defScope s__law_hand) := ⟨rfl, rfl, rfl, by decide +kernel, rfl, by decide +kernel, by decide +kernel⟩
theorem m__law_all : mSs false (defScope s__law_all) n__law_all b__law_all (defBody s__law_all) = true := by decide +kernel
theorem sc__law_all : FnScope n__law_all sg__law_all.ps (defScope s__law_all) := ⟨rfl, rfl, rfl, by decide +kernel, rfl, by decide +kernel, by decide +kernel⟩
theorem m_law : mSs false (defScope s_law) n_law b_law (defBody s_law) = true := by decide +kernel
theorem sc_law : FnScope n_law sg_law.ps (defScope s_law) := ⟨rfl, rfl, rfl, by decide +kernel, rfl, by decide +kernel, by decide +kernel⟩
theorem ok_is_integer {t : Tx} {k : Nat} {G : Gs}  : ssOk (askOf t k (TL G) G) false b_is_integer := by
  simp only [b_is_integer, ssOk, sOk, eOk, esOk, askOf, and_true, true_and, Es.len, Nat.zero_add]
  try (repeat' apply And.intro)
  all_goals first | assumption | exact get_ok G | exact set_ok G | trivial
theorem ok_is_value {t : Tx} {k : Nat} {G : Gs} (c_is_integer : ClOk t false k (TL G) G sg_is_integer g_is_integer) : ssOk (askOf t k (TL G) G) false b_is_value := by
  simp only [b_is_value, ssOk, sOk, eOk, esOk, askOf, and_true, true_and, Es.len, Nat.zero_add]
  try (repeat' apply And.intro)
  all_goals first | assumption | exact get_ok G | exact set_ok G | trivial
theorem ok_is_row {t : Tx} {k : Nat} {G : Gs} (c_is_value : ClOk t false k (TL G) G sg_is_value g_is_value) : ssOk (askOf t k (TL G) G) false b_is_row := by
  simp only [b_is_row, b_is_row_1, b_is_row_2, ssOk, sOk, eOk, esOk, askOf, and_true, true_and, Es.len, Nat.zero_add]
  try (repeat' apply And.intro)
  all_goals first | assumption | exact get_ok G | exact set_ok G | trivial
theorem ok_is_number {t : Tx} {k : Nat} {G : Gs} (c_is_integer : ClOk t false k (TL G) G sg_is_integer g_is_integer) : ssOk (askOf t k (TL G) G) false b_is_number := by
  simp only [b_is_number, ssOk, sOk, eOk, esOk, askOf, and_true, true_and, Es.len, Nat.zero_add]
  try (repeat' apply And.intro)
  all_goals first | assumption | exact get_ok G | exact set_ok G | trivial
theorem ok_are_rows {t : Tx} {k : Nat} {G : Gs} (c_is_row : ClOk t false k (TL G) G sg_is_row g_is_row) (c_is_number : ClOk t false k (TL G) G sg_is_number g_is_number) : ssOk (askOf t k (TL G) G) false b_are_rows := by
  simp only [b_are_rows, b_are_rows_1, b_are_rows_2, ssOk, sOk, eOk, esOk, askOf, and_true, true_and, Es.len, Nat.zero_add]
  try (repeat' apply And.intro)
  all_goals first | assumption | exact get_ok G | exact set_ok G | trivial
theorem ok__law_same {t : Tx} {k : Nat} {G : Gs} {g : Fn J} (c__law_same : ClOk t false k (TL G) G sg__law_same g) : ssOk (askOf t k (TL G) G) false (b__law_same g) := by
  simp only [b__law_same, b__law_same_1, ssOk, sOk, eOk, esOk, askOf, and_true, true_and, Es.len, Nat.zero_add]
  try (repeat' apply And.intro)
  all_goals first | assumption | exact get_ok G | exact set_ok G | trivial
theorem okh__law_same {t : Tx} {k : Nat} {G : Gs} {g : Fn J} (c__law_same : ClOk t true k (TL G) G sg__law_same g) : ssOk (askOf t k (TL G) G) true (b__law_same g) := by
  simp only [b__law_same, b__law_same_1, ssOk, sOk, eOk, esOk, askOf, and_true, true_and, Es.len, Nat.zero_add]
  try (repeat' apply And.intro)
  all_goals first | assumption | exact get_ok G | exact set_ok G | trivial
theorem ok_common_divisor {t : Tx} {k : Nat} {G : Gs}  : ssOk (askOf t k (TL G) G) false b_common_divisor := by
  simp only [b_common_divisor, b_common_divisor_1, b_common_divisor_2, ssOk, sOk, eOk, esOk, askOf, and_true, true_and, Es.len, Nat.zero_add]
  try (repeat' apply And.intro)
  all_goals first | assumption | exact get_ok G | exact set_ok G | trivial
theorem ok_is_share {t : Tx} {k : Nat} {G : Gs} (c_common_divisor : ClOk t false k (TL G) G sg_common_divisor g_common_divisor) (c_is_integer : ClOk t false k (TL G) G sg_is_integer g_is_integer) : ssOk (askOf t k (TL G) G) false b_is_share := by
  simp only [b_is_share, ssOk, sOk, eOk, esOk, askOf, and_true, true_and, Es.len, Nat.zero_add]
  try (repeat' apply And.intro)
  all_goals first | assumption | exact get_ok G | exact set_ok G | trivial
theorem ok__law_up {t : Tx} {k : Nat} {G : Gs}  : ssOk (askOf t k (TL G) G) false b__law_up := by
  simp only [b__law_up, ssOk, sOk, eOk, esOk, askOf, and_true, true_and, Es.len, Nat.zero_add]
  try (repeat' apply And.intro)
  all_goals first | assumption | exact get_ok G | exact set_ok G | trivial
theorem ok_rounded_up {t : Tx} {k : Nat} {G : Gs}  : ssOk (askOf t k (TL G) G) false b_rounded_up := by
  simp only [b_rounded_up, ssOk, sOk, eOk, esOk, askOf, and_true, true_and, Es.len, Nat.zero_add]
  try (repeat' apply And.intro)
  all_goals first | assumption | exact get_ok G | exact set_ok G | trivial
theorem ok_is_below {t : Tx} {k : Nat} {G : Gs}  : ssOk (askOf t k (TL G) G) false b_is_below := by
  simp only [b_is_below, ssOk, sOk, eOk, esOk, askOf, and_true, true_and, Es.len, Nat.zero_add]
  try (repeat' apply And.intro)
  all_goals first | assumption | exact get_ok G | exact set_ok G | trivial
theorem ok_share_of {t : Tx} {k : Nat} {G : Gs} (c_common_divisor : ClOk t false k (TL G) G sg_common_divisor g_common_divisor) (r_InvalidNumber : RsOk t k G "InvalidNumber" 1) : ssOk (askOf t k (TL G) G) false b_share_of := by
  simp only [b_share_of, ssOk, sOk, eOk, esOk, askOf, and_true, true_and, Es.len, Nat.zero_add]
  try (repeat' apply And.intro)
  all_goals first | assumption | exact get_ok G | exact set_ok G | trivial
theorem ok_over {t : Tx} {k : Nat} {G : Gs} (c_share_of : ClOk t false k (TL G) G sg_share_of g_share_of) (r_Undefined : RsOk t k G "Undefined" 1) : ssOk (askOf t k (TL G) G) false b_over := by
  simp only [b_over, ssOk, sOk, eOk, esOk, askOf, and_true, true_and, Es.len, Nat.zero_add]
  try (repeat' apply And.intro)
  all_goals first | assumption | exact get_ok G | exact set_ok G | trivial
theorem ok__law_low {t : Tx} {k : Nat} {G : Gs}  : ssOk (askOf t k (TL G) G) false b__law_low := by
  simp only [b__law_low, b__law_low_1, ssOk, sOk, eOk, esOk, askOf, and_true, true_and, Es.len, Nat.zero_add]
  try (repeat' apply And.intro)
  all_goals first | assumption | exact get_ok G | exact set_ok G | trivial
theorem ok_times {t : Tx} {k : Nat} {G : Gs} (c_share_of : ClOk t false k (TL G) G sg_share_of g_share_of) : ssOk (askOf t k (TL G) G) false b_times := by
  simp only [b_times, ssOk, sOk, eOk, esOk, askOf, and_true, true_and, Es.len, Nat.zero_add]
  try (repeat' apply And.intro)
  all_goals first | assumption | exact get_ok G | exact set_ok G | trivial
theorem ok_less {t : Tx} {k : Nat} {G : Gs} (c_share_of : ClOk t false k (TL G) G sg_share_of g_share_of) : ssOk (askOf t k (TL G) G) false b_less := by
  simp only [b_less, ssOk, sOk, eOk, esOk, askOf, and_true, true_and, Es.len, Nat.zero_add]
  try (repeat' apply And.intro)
  all_goals first | assumption | exact get_ok G | exact set_ok G | trivial
theorem ok__law_sum {t : Tx} {k : Nat} {G : Gs} (c__law_low : ClOk t false k (TL G) G sg__law_low g__law_low) : ssOk (askOf t k (TL G) G) false b__law_sum := by
  simp only [b__law_sum, ssOk, sOk, eOk, esOk, askOf, and_true, true_and, Es.len, Nat.zero_add]
  try (repeat' apply And.intro)
  all_goals first | assumption | exact get_ok G | exact set_ok G | trivial
theorem ok_plus {t : Tx} {k : Nat} {G : Gs} (c_share_of : ClOk t false k (TL G) G sg_share_of g_share_of) : ssOk (askOf t k (TL G) G) false b_plus := by
  simp only [b_plus, ssOk, sOk, eOk, esOk, askOf, and_true, true_and, Es.len, Nat.zero_add]
  try (repeat' apply And.intro)
  all_goals first | assumption | exact get_ok G | exact set_ok G | trivial
theorem ok__law_pick {t : Tx} {k : Nat} {G : Gs}  : ssOk (askOf t k (TL G) G) false b__law_pick := by
  simp only [b__law_pick, ssOk, sOk, eOk, esOk, askOf, and_true, true_and, Es.len, Nat.zero_add]
  try (repeat' apply And.intro)
  all_goals first | assumption | exact get_ok G | exact set_ok G | trivial
theorem ok__law_number {t : Tx} {k : Nat} {G : Gs} (c__law_pick : ClOk t false k (TL G) G sg__law_pick g__law_pick) : ssOk (askOf t k (TL G) G) false b__law_number := by
  simp only [b__law_number, ssOk, sOk, eOk, esOk, askOf, and_true, true_and, Es.len, Nat.zero_add]
  try (repeat' apply And.intro)
  all_goals first | assumption | exact get_ok G | exact set_ok G | trivial
theorem ok__law_share {t : Tx} {k : Nat} {G : Gs} (c__law_low : ClOk t false k (TL G) G sg__law_low g__law_low) (c__law_number : ClOk t false k (TL G) G sg__law_number g__law_number) : ssOk (askOf t k (TL G) G) false b__law_share := by
  simp only [b__law_share, ssOk, sOk, eOk, esOk, askOf, and_true, true_and, Es.len, Nat.zero_add]
  try (repeat' apply And.intro)
  all_goals first | assumption | exact get_ok G | exact set_ok G | trivial
theorem ok__law_second {t : Tx} {k : Nat} {G : Gs} (c__law_low : ClOk t false k (TL G) G sg__law_low g__law_low) (c__law_share : ClOk t false k (TL G) G sg__law_share g__law_share) (c__law_pick : ClOk t false k (TL G) G sg__law_pick g__law_pick) : ssOk (askOf t k (TL G) G) false b__law_second := by
  simp only [b__law_second, ssOk, sOk, eOk, esOk, askOf, and_true, true_and, Es.len, Nat.zero_add]
  try (repeat' apply And.intro)
  all_goals first | assumption | exact get_ok G | exact set_ok G | trivial
theorem ok__law_chain_right {t : Tx} {k : Nat} {G : Gs} (c__law_same : ClOk t false k (TL G) G sg__law_same g__law_same) (c_is_share : ClOk t false k (TL G) G sg_is_share g_is_share) (c__law_up : ClOk t false k (TL G) G sg__law_up g__law_up) (c_rounded_up : ClOk t false k (TL G) G sg_rounded_up g_rounded_up) (c_is_below : ClOk t false k (TL G) G sg_is_below g_is_below) (c_over : ClOk t false k (TL G) G sg_over g_over) (c__law_low : ClOk t false k (TL G) G sg__law_low g__law_low) (c_times : ClOk t false k (TL G) G sg_times g_times) (c_less : ClOk t false k (TL G) G sg_less g_less) (c__law_sum : ClOk t false k (TL G) G sg__law_sum g__law_sum) (c_plus : ClOk t false k (TL G) G sg_plus g_plus) (c__law_pick : ClOk t false k (TL G) G sg__law_pick g__law_pick) (c__law_second : ClOk t false k (TL G) G sg__law_second g__law_second) : ssOk (askOf t k (TL G) G) false b__law_chain_right := by
  simp only [b__law_chain_right, b__law_chain_right_1, ssOk, sOk, eOk, esOk, askOf, and_true, true_and, Es.len, Nat.zero_add]
  try (repeat' apply And.intro)
  all_goals first | assumption | exact get_ok G | exact set_ok G | trivial
theorem ok_total_of {t : Tx} {k : Nat} {G : Gs} (c_plus : ClOk t false k (TL G) G sg_plus g_plus) : ssOk (askOf t k (TL G) G) false b_total_of := by
  simp only [b_total_of, b_total_of_1, ssOk, sOk, eOk, esOk, askOf, and_true, true_and, Es.len, Nat.zero_add]
  try (repeat' apply And.intro)
  all_goals first | assumption | exact get_ok G | exact set_ok G | trivial
theorem ok__law_total_right {t : Tx} {k : Nat} {G : Gs} (c__law_same : ClOk t false k (TL G) G sg__law_same g__law_same) (c_total_of : ClOk t false k (TL G) G sg_total_of g_total_of) (c__law_sum : ClOk t false k (TL G) G sg__law_sum g__law_sum) : ssOk (askOf t k (TL G) G) false b__law_total_right := by
  simp only [b__law_total_right, b__law_total_right_1, ssOk, sOk, eOk, esOk, askOf, and_true, true_and, Es.len, Nat.zero_add]
  try (repeat' apply And.intro)
  all_goals first | assumption | exact get_ok G | exact set_ok G | trivial
theorem ok__law_is_share {t : Tx} {k : Nat} {G : Gs} (c__law_low : ClOk t false k (TL G) G sg__law_low g__law_low) : ssOk (askOf t k (TL G) G) false b__law_is_share := by
  simp only [b__law_is_share, b__law_is_share_1, ssOk, sOk, eOk, esOk, askOf, and_true, true_and, Es.len, Nat.zero_add]
  try (repeat' apply And.intro)
  all_goals first | assumption | exact get_ok G | exact set_ok G | trivial
theorem ok__law_values_right {t : Tx} {k : Nat} {G : Gs} (c__law_same : ClOk t false k (TL G) G sg__law_same g__law_same) (c_is_share : ClOk t false k (TL G) G sg_is_share g_is_share) (c__law_is_share : ClOk t false k (TL G) G sg__law_is_share g__law_is_share) (c_Rules : ClOk t false k (TL G) G sg_Rules g_Rules) : ssOk (askOf t k (TL G) G) false b__law_values_right := by
  simp only [b__law_values_right, b__law_values_right_1, ssOk, sOk, eOk, esOk, askOf, and_true, true_and, Es.len, Nat.zero_add]
  try (repeat' apply And.intro)
  all_goals first | assumption | exact get_ok G | exact set_ok G | trivial
theorem ok__law_bottom_refused {t : Tx} {k : Nat} {G : Gs} (c_share_of : ClOk t false k (TL G) G sg_share_of g_share_of) (h__law_same : ClOk t true k (TL G) G sg__law_same g__law_same) (y_InvalidNumber : ∃ cv, t.mg "InvalidNumber" = some cv ∧ YesOk G.K G cv yes_InvalidNumber) : ssOk (askOf t k (TL G) G) false b__law_bottom_refused := by
  simp only [b__law_bottom_refused, ssOk, sOk, eOk, esOk, askOf, and_true, true_and, Es.len, Nat.zero_add]
  try (repeat' apply And.intro)
  all_goals first | assumption | exact get_ok G | exact set_ok G | trivial
theorem ok__law_made_right {t : Tx} {k : Nat} {G : Gs} (c__law_bottom_refused : ClOk t false k (TL G) G sg__law_bottom_refused g__law_bottom_refused) (c__law_number : ClOk t false k (TL G) G sg__law_number g__law_number) (c__law_same : ClOk t false k (TL G) G sg__law_same g__law_same) (c_share_of : ClOk t false k (TL G) G sg_share_of g_share_of) (c__law_low : ClOk t false k (TL G) G sg__law_low g__law_low) : ssOk (askOf t k (TL G) G) false b__law_made_right := by
  simp only [b__law_made_right, b__law_made_right_1, ssOk, sOk, eOk, esOk, askOf, and_true, true_and, Es.len, Nat.zero_add]
  try (repeat' apply And.intro)
  all_goals first | assumption | exact get_ok G | exact set_ok G | trivial
theorem ok__law_nought_refused {t : Tx} {k : Nat} {G : Gs} (c_over : ClOk t false k (TL G) G sg_over g_over) (h__law_same : ClOk t true k (TL G) G sg__law_same g__law_same) (y_Undefined : ∃ cv, t.mg "Undefined" = some cv ∧ YesOk G.K G cv yes_Undefined) : ssOk (askOf t k (TL G) G) false b__law_nought_refused := by
  simp only [b__law_nought_refused, ssOk, sOk, eOk, esOk, askOf, and_true, true_and, Es.len, Nat.zero_add]
  try (repeat' apply And.intro)
  all_goals first | assumption | exact get_ok G | exact set_ok G | trivial
theorem ok__law_pair_right {t : Tx} {k : Nat} {G : Gs} (c__law_same : ClOk t false k (TL G) G sg__law_same g__law_same) (c__law_low : ClOk t false k (TL G) G sg__law_low g__law_low) (c_over : ClOk t false k (TL G) G sg_over g_over) (c__law_nought_refused : ClOk t false k (TL G) G sg__law_nought_refused g__law_nought_refused) (c__law_up : ClOk t false k (TL G) G sg__law_up g__law_up) (c_rounded_up : ClOk t false k (TL G) G sg_rounded_up g_rounded_up) (c_less : ClOk t false k (TL G) G sg_less g_less) (c_is_below : ClOk t false k (TL G) G sg_is_below g_is_below) (c_times : ClOk t false k (TL G) G sg_times g_times) (c__law_sum : ClOk t false k (TL G) G sg__law_sum g__law_sum) (c_plus : ClOk t false k (TL G) G sg_plus g_plus) : ssOk (askOf t k (TL G) G) false b__law_pair_right := by
  simp only [b__law_pair_right, ssOk, sOk, eOk, esOk, askOf, and_true, true_and, Es.len, Nat.zero_add]
  try (repeat' apply And.intro)
  all_goals first | assumption | exact get_ok G | exact set_ok G | trivial
theorem ok__law_hand {t : Tx} {k : Nat} {G : Gs}  : ssOk (askOf t k (TL G) G) false b__law_hand := by
  simp only [b__law_hand, b__law_hand_1, b__law_hand_2, b__law_hand_3, b__law_hand_4, b__law_hand_5, ssOk, sOk, eOk, esOk, askOf, and_true, true_and, Es.len, Nat.zero_add]
  try (repeat' apply And.intro)
  all_goals first | assumption | exact get_ok G | exact set_ok G | trivial
theorem ok__law_all {t : Tx} {k : Nat} {G : Gs} (c__law_chain_right : ClOk t false k (TL G) G sg__law_chain_right g__law_chain_right) (c__law_total_right : ClOk t false k (TL G) G sg__law_total_right g__law_total_right) (c__law_pick : ClOk t false k (TL G) G sg__law_pick g__law_pick) (c__law_values_right : ClOk t false k (TL G) G sg__law_values_right g__law_values_right) (c__law_made_right : ClOk t false k (TL G) G sg__law_made_right g__law_made_right) (c__law_pair_right : ClOk t false k (TL G) G sg__law_pair_right g__law_pair_right) (c__law_second : ClOk t false k (TL G) G sg__law_second g__law_second) (c__law_share : ClOk t false k (TL G) G sg__law_share g__law_share) (c__law_hand : ClOk t false k (TL G) G sg__law_hand g__law_hand) : ssOk (askOf t k (TL G) G) false b__law_all := by
  simp only [b__law_all, b__law_all_1, ssOk, sOk, eOk, esOk, askOf, and_true, true_and, Es.len, Nat.zero_add]
  try (repeat' apply And.intro)
  all_goals first | assumption | exact get_ok G | exact set_ok G | trivial
theorem ok_law {t : Tx} {k : Nat} {G : Gs} (c__law_all : ClOk t false k (TL G) G sg__law_all g__law_all) (y_GuessError : ∃ cv, t.mg "GuessError" = some cv ∧ YesOk G.K G cv yes_GuessError) : ssOk (askOf t k (TL G) G) false b_law := by
  simp only [b_law, ssOk, sOk, eOk, esOk, askOf, and_true, true_and, Es.len, Nat.zero_add]
  try (repeat' apply And.intro)
  all_goals first | assumption | exact get_ok G | exact set_ok G | trivial

end K00

set_option Elab.async false
set_option linter.all false
set_option maxRecDepth 100000
set_option maxHeartbeats 8000000
namespace K00
open PySem PySem.Spec PyProof.Rows L2 DL
theorem isi_tupI (xs : List D) : isiD (.tup xs) "int" = some false := by rfl
theorem isi_tupB (xs : List D) : isiD (.tup xs) "bool" = some false := by rfl
theorem isi_tupS (xs : List D) : isiD (.tup xs) "str" = some false := by rfl
theorem isi_tupT (xs : List D) : isiD (.tup xs) "tuple" = some true := by rfl
theorem isi_intI (i : Int) : isiD (.int i) "int" = some true := by rfl
theorem isi_intB (i : Int) : isiD (.int i) "bool" = some false := by rfl
theorem isi_intS (i : Int) : isiD (.int i) "str" = some false := by rfl
theorem isi_intT (i : Int) : isiD (.int i) "tuple" = some false := by rfl
theorem isi_blB (i : Bool) : isiD (.bl i) "bool" = some true := by rfl
theorem isi_blI (i : Bool) : isiD (.bl i) "int" = some true := by rfl
theorem isi_strB (i : Str) : isiD (.str i) "bool" = some false := by rfl
theorem isi_strI (i : Str) : isiD (.str i) "int" = some false := by rfl
theorem isi_strS (i : Str) : isiD (.str i) "str" = some true := by rfl
theorem bi_abs (i : Int) : biD "abs" [.int i] = some (.int (if i < 0 then -i else i), false) := by rfl
theorem bi_int (i : Int) : biD "int" [.int i] = some (.int i, false) := by rfl
theorem bi_lenT (xs : List D) : biD "len" [.tup xs] = some (.int xs.length, false) := by rfl
theorem bi_lenL (xs : List D) : biD "len" [.lst xs] = some (.int xs.length, false) := by rfl
theorem bi_max (i j : Int) : biD "max" [.int i, .int j] = some (.int (if j > i then j else i), false) := by rfl
theorem at0 (x : D) (xs : List D) : atD (x :: xs) 0 = some x := by
  unfold atD ixOf
  rw [if_pos (Int.le_refl 0), if_pos (by simp only [List.length_cons]; omega)]
  rfl
theorem at1 (x y : D) (xs : List D) : atD (x :: y :: xs) 1 = some y := by
  unfold atD ixOf
  rw [if_pos (by decide), if_pos (by simp only [List.length_cons]; omega)]
  rfl
/-! ### is_integer .. -/
theorem e_is_integer (d : D) (s : List J) (b : Bool) (h1 : isiD d "int" = some true) (h2 : isiD d "bool" = some b) : g_is_integer [d] s = .ok (.bl (!b), false) s := by
  simp [g_is_integer, defn, b_is_integer, svs, sv, ev, evs, evb, boolOf, liftE, liftB, lift, Ot.then, h1, h2]
theorem whl_end {test : DL.Env → List J → R J Bool} {body : DL.Env → List J → Ot J} {n : Nat} {ρ : DL.Env} {s s1 : List J} (h : test ρ s = .ok false s1) : whlRun test body n ρ s = .nx ρ s1 := by
  cases n <;> simp [whlRun, h, liftE]
theorem whl_step {test : DL.Env → List J → R J Bool} {body : DL.Env → List J → Ot J} {n : Nat} {ρ ρ2 : DL.Env} {s s1 s2 : List J} (h : test ρ s = .ok true s1) (h2 : body ρ s1 = .nx ρ2 s2) : whlRun test body (n + 1) ρ s = whlRun test body n ρ2 s2 := by
  simp [whlRun, h, h2, liftE]
theorem loop_nil {t : Tg} {body : DL.Env → List J → Ot J} {ρ : DL.Env} {s : List J} : loopRun t body [] ρ s = .nx ρ s := rfl
theorem loop_step {i : Nat} {x : Str} {body : DL.Env → List J → Ot J} {d : D} {ds : List D} {ρ ρ2 : DL.Env} {s s2 : List J} (h : body (ρ.set i (.sh d)) s = .nx ρ2 s2) : loopRun (.nm i x) body (d :: ds) ρ s = loopRun (.nm i x) body ds ρ2 s2 := by
  simp [loopRun, setTg, h]
theorem loop_brk {i : Nat} {x : Str} {body : DL.Env → List J → Ot J} {d : D} {ds : List D} {ρ ρ2 : DL.Env} {s s2 : List J} (h : body (ρ.set i (.sh d)) s = .brk ρ2 s2) : loopRun (.nm i x) body (d :: ds) ρ s = .nx ρ2 s2 := by
  simp [loopRun, setTg, h]
theorem e_common {a b : Nat} (s : List J) : g_common_divisor [.int a, .int b] s = .ok (.int (Nat.gcd a b), false) s := by
  have t1 : ∀ (a b : Nat), boolOf (ev flds false b_common_divisor_1 [.sh (.int a), .sh (.int b)] s) = .ok (decide (0 < b)) s := fun a b => by
    simp [b_common_divisor_1, ev, boolOf, liftB, cmpD]
  have b1 : ∀ (a b : Nat), b ≠ 0 → svs flds b_common_divisor_2 [.sh (.int a), .sh (.int b)] s = .nx [.sh (.int b), .sh (.int ((a % b : Nat) : Int))] s := fun a b h0 => by
    have hm : ((a : Int).fmod (b : Int)) = ((a % b : Nat) : Int) := by
      rw [Int.fmod_eq_emod_of_nonneg _ (by omega)]
      rfl
    simp [b_common_divisor_2, ev, evs, svs, sv, boolOf, liftE, liftB, lift, cmpD, binD, Ot.then, bi_int, h0, hm]
  have key : ∀ n b a : Nat, b ≤ n → whlRun (fun ρ s => boolOf (ev flds false b_common_divisor_1 ρ s)) (fun ρ s => svs flds b_common_divisor_2 ρ s) n [.sh (.int a), .sh (.int b)] s = .nx [.sh (.int (Nat.gcd a b)), .sh (.int 0)] s := by
    intro n
    induction n with
    | zero =>
      intro b a hb
      have : b = 0 := by omega
      subst this
      rw [whl_end (t1 a 0), Nat.gcd_zero_right]
      rfl
    | succ n ih =>
      intro b a hb
      by_cases h0 : b = 0
      · subst h0
        rw [whl_end (t1 a 0), Nat.gcd_zero_right]
        rfl
      · have h1 := t1 a b
        rw [decide_eq_true (Nat.pos_of_ne_zero h0)] at h1
        rw [whl_step h1 (b1 a b h0), ih (a % b) b (by have := Nat.mod_lt a (Nat.pos_of_ne_zero h0); omega), Nat.gcd_comm b (a % b), ← Nat.gcd_rec b a, Nat.gcd_comm b a]
  have k := key (b + 1) b a (by omega)
  simp [g_common_divisor, defn, b_common_divisor, svs, sv, fuelAt, k, Ot.then, liftE, ev]

/-! ### the lowest terms -/
theorem abs_nat (i : Int) : (if i < 0 then -i else i) = (i.natAbs : Int) := by split <;> omega
def gI (a b : Int) : Int := ((Nat.gcd a.natAbs b.natAbs : Nat) : Int)
def low (a b : Int) : Int × Int := if b < 0 then ((-a).fdiv (gI a b), (-b).fdiv (gI a b)) else (a.fdiv (gI a b), b.fdiv (gI a b))
def shD (p : Int × Int) : D := .tup [.int p.1, .int p.2]
def Sm (i : Int) : Prop := i.natAbs < 2 ^ (4000 : Nat)
theorem gI_pos {a b : Int} (hb : b ≠ 0) : 0 < gI a b := by
  have : 0 < Nat.gcd a.natAbs b.natAbs := Nat.gcd_pos_of_pos_right _ (by omega)
  unfold gI
  omega
theorem gI_le {a b : Int} (hb : b ≠ 0) : gI a b ≤ b.natAbs := by
  have : Nat.gcd a.natAbs b.natAbs ≤ b.natAbs := Nat.gcd_le_right _ (by omega)
  unfold gI
  omega
theorem divOk_of {j : Int} (h : j ≠ 0) (h2 : Sm j) : divOk j = true := by
  unfold divOk
  simp only [Bool.and_eq_true, decide_eq_true_eq]
  refine ⟨h, ?_⟩
  have hp : j.natAbs ≠ 0 := by omega
  rw [Nat.log2_lt hp]
  exact Nat.lt_trans h2 (Nat.pow_lt_pow_right (by omega) (by omega))
theorem Sm.le {i j : Int} (h : Sm j) (k : i.natAbs ≤ j.natAbs) : Sm i := Nat.lt_of_le_of_lt k h
theorem e_low {a b : Int} (s : List J) (hb : b ≠ 0) (sb : Sm b) : g__law_low [.int a, .int b] s = .ok (shD (low a b), false) s := by
  have hg : divOk (gI a b) = true := divOk_of (by have := gI_pos (a := a) hb; omega) (sb.le (by have := gI_le (a := a) hb; have := gI_pos (a := a) hb; omega))
  have r9 : rngOk 9000 = true := by decide
  have b1 : ∀ (x y : Nat) (u v : DL.Slot) (d : D), y ≠ 0 → svs flds b__law_low_1 ([.sh (.int a), .sh (.int b), .sh (.int x), .sh (.int y), u, v].set 4 (.sh d)) s = .nx [.sh (.int a), .sh (.int b), .sh (.int y), .sh (.int ((x % y : Nat) : Int)), .sh d, .sh (.int ((x % y : Nat) : Int))] s := fun x y u v d h0 => by
    have hm : ((x : Int).fmod (y : Int)) = ((x % y : Nat) : Int) := by
      rw [Int.fmod_eq_emod_of_nonneg _ (by omega)]
      rfl
    simp [b__law_low_1, ev, evs, svs, sv, boolOf, liftE, liftB, lift, cmpD, eqD, D.plain, D.eqv, binD, Ot.then, bi_int, h0, hm, setTg]
  have b2 : ∀ (x : Nat) (u v : DL.Slot) (d : D), svs flds b__law_low_1 ([.sh (.int a), .sh (.int b), .sh (.int x), .sh (.int ((0 : Nat) : Int)), u, v].set 4 (.sh d)) s = .brk [.sh (.int a), .sh (.int b), .sh (.int x), .sh (.int ((0 : Nat) : Int)), .sh d, v] s := fun x u v d => by
    simp [b__law_low_1, ev, evs, svs, sv, boolOf, liftE, liftB, lift, cmpD, eqD, D.plain, D.eqv, binD, Ot.then, setTg]
  have key : ∀ (m : Nat) (ds : List D) (x y : Nat) (u v : DL.Slot), 2 * m ≤ ds.length → y < 2 ^ m → ∃ u' v', loopRun (.nm 4 "k") (fun ρ s => svs flds b__law_low_1 ρ s) ds [.sh (.int a), .sh (.int b), .sh (.int x), .sh (.int y), u, v] s = .nx [.sh (.int a), .sh (.int b), .sh (.int (Nat.gcd x y)), .sh (.int ((0 : Nat) : Int)), u', v'] s := by
    intro m
    induction m with
    | zero =>
      intro ds x y u v _ hy
      have : y = 0 := by omega
      subst this
      cases ds with
      | nil => exact ⟨u, v, by rw [Nat.gcd_zero_right]; rfl⟩
      | cons d ds => exact ⟨.sh d, v, by rw [loop_brk (b2 x u v d), Nat.gcd_zero_right]⟩
    | succ m ih =>
      intro ds x y u v hl hy
      match ds, hl with
      | d1 :: d2 :: ds, hl =>
        by_cases h0 : y = 0
        · subst h0
          exact ⟨.sh d1, v, by rw [loop_brk (b2 x u v d1), Nat.gcd_zero_right]⟩
        · rw [loop_step (b1 x y u v d1 h0)]
          have hr : x % y < y := Nat.mod_lt _ (Nat.pos_of_ne_zero h0)
          have e1 : Nat.gcd x y = Nat.gcd y (x % y) := by rw [Nat.gcd_comm x y, Nat.gcd_rec y x, Nat.gcd_comm]
          by_cases h1 : x % y = 0
          · rw [h1]
            exact ⟨.sh d2, .sh (.int ((0 : Nat) : Int)), by rw [loop_brk (b2 y _ _ d2), e1, h1, Nat.gcd_zero_right]⟩
          · rw [loop_step (b1 y (x % y) _ _ d2 h1)]
            have e2 : Nat.gcd y (x % y) = Nat.gcd (x % y) (y % (x % y)) := by rw [Nat.gcd_comm y (x % y), Nat.gcd_rec (x % y) y, Nat.gcd_comm]
            rw [e1, e2]
            refine ih ds _ _ _ _ (by simp at hl; omega) ?_
            have h2 : y % (x % y) < x % y := Nat.mod_lt _ (Nat.pos_of_ne_zero h1)
            have h3 : x % y + y % (x % y) ≤ y := by
              have := Nat.div_add_mod y (x % y)
              have h4 : 1 ≤ y / (x % y) := Nat.div_pos (Nat.le_of_lt hr) (Nat.pos_of_ne_zero h1)
              have h5 : (x % y) * 1 ≤ (x % y) * (y / (x % y)) := Nat.mul_le_mul_left _ h4
              omega
            rw [Nat.pow_succ] at hy
            omega
  obtain ⟨u', v', hk⟩ := key 4000 (intsUp 0 (9000 : Int).toNat) a.natAbs b.natAbs .no .no (by rw [intsUp_len]; decide) sb
  have hg' : divOk ((a.natAbs.gcd b.natAbs : Nat) : Int) = true := hg
  simp only [g__law_low, defn, b__law_low, svs, sv, List.map_cons, List.map_nil, List.length_cons, List.length_nil]
  simp only [ev, evs, liftE, lift, R.bind_ok, bi_abs, abs_nat, Ot.then, setTg, intOf, r9, itemsOf, if_true, List.getElem?_cons_zero, List.getElem?_cons_succ, List.cons_append, List.nil_append, List.set_cons_succ, List.set_cons_zero, Nat.reduceSub, List.replicate, hk]
  by_cases hlt : b < 0
  · simp [ev, evs, svs, sv, boolOf, intOf, liftE, liftB, lift, cmpD, binD, Ot.then, hlt, hg', shD, low, gI]
  · simp [ev, evs, svs, sv, boolOf, intOf, liftE, liftB, lift, cmpD, binD, Ot.then, hlt, hg', shD, low, gI]
end K00

set_option Elab.async false
set_option linter.all false
set_option maxRecDepth 100000
set_option maxHeartbeats 8000000
namespace K00
open PySem PySem.Spec PyProof.Rows L2 DL
def Bd (n : Nat) (i : Int) : Prop := i.natAbs < 2 ^ n
theorem Bd.mono {n m : Nat} {i : Int} (h : Bd n i) (k : n ≤ m) : Bd m i := Nat.lt_of_lt_of_le h (Nat.pow_le_pow_right (by omega) k)
theorem Bd.mul {n m : Nat} {i j : Int} (h : Bd n i) (k : Bd m j) : Bd (n + m) (i * j) := by
  unfold Bd at *
  rw [Int.natAbs_mul, Nat.pow_add]
  exact Nat.mul_lt_mul_of_lt_of_le h (Nat.le_of_lt k) (Nat.two_pow_pos m)
theorem Bd.neg {n : Nat} {i : Int} (h : Bd n i) : Bd n (-i) := by unfold Bd at *; rw [Int.natAbs_neg]; exact h
theorem Bd.add {n : Nat} {i j : Int} (h : Bd n i) (k : Bd n j) : Bd (n + 1) (i + j) := by
  unfold Bd at *
  have := Int.natAbs_add_le i j
  rw [Nat.pow_succ]
  omega
theorem Bd.sub {n : Nat} {i j : Int} (h : Bd n i) (k : Bd n j) : Bd (n + 1) (i - j) := by
  rw [Int.sub_eq_add_neg]
  exact h.add k.neg
theorem Bd.sm {n : Nat} {i : Int} (h : Bd n i) (k : n ≤ 4000) : Sm i := h.mono k
theorem log2_of {n x : Nat} (h : x < 2 ^ n) : x.log2 ≤ n := by
  by_cases h0 : x = 0
  · subst h0; simp
  · have := (Nat.log2_lt h0).mpr h
    omega
theorem mulOk_of {n m : Nat} {i j : Int} (h : Bd n i) (k : Bd m j) (l : n + m < 1000000) : mulOk i j = true := by
  unfold mulOk
  have := log2_of h
  have := log2_of k
  exact decide_eq_true (by omega)
theorem e_share {a b : Int} (s : List J) (hb : b ≠ 0) (sb : Sm b) : g_share_of [.int a, .int b] s = .ok (shD (low a b), false) s := by
  have hp := gI_pos (a := a) hb
  have hg : divOk (gI a b) = true := divOk_of (by omega) (sb.le (by have := gI_le (a := a) hb; omega))
  have hn : divOk (-(gI a b)) = true := divOk_of (by omega) (sb.le (by have := gI_le (a := a) hb; omega))
  have hg' : divOk ((a.natAbs.gcd b.natAbs : Nat) : Int) = true := hg
  have hn' : divOk (-((a.natAbs.gcd b.natAbs : Nat) : Int)) = true := hn
  have d1 : ∀ x y : Int, x.fdiv (-y) = (-x).fdiv y := fun x y => by rw [← Int.neg_fdiv_neg, Int.neg_neg]
  have ha : biD "abs" [.int a] = some (.int (a.natAbs : Int), false) := by rw [bi_abs, abs_nat]
  have hb2 : biD "abs" [.int b] = some (.int (b.natAbs : Int), false) := by rw [bi_abs, abs_nat]
  have hc : g_common_divisor [.int (a.natAbs : Int), .int (b.natAbs : Int)] s = .ok (.int (gI a b), false) s := e_common s
  by_cases hlt : b < 0
  · simp [g_share_of, defn, b_share_of, ev, evs, svs, sv, boolOf, intOf, liftE, liftB, lift, cmpD, eqD, D.plain, D.eqv, binD, Ot.then, ha, hb2, hc, hb, setTg, hlt, hn, d1, shD, low]
  · simp [g_share_of, defn, b_share_of, ev, evs, svs, sv, boolOf, intOf, liftE, liftB, lift, cmpD, eqD, D.plain, D.eqv, binD, Ot.then, ha, hb2, hc, hb, setTg, hlt, hg, d1, shD, low]
theorem e_share0 {a : Int} (s : List J) : g_share_of [.int a, .int 0] s = .exc "InvalidNumber" [.int 0] s := by
  simp [g_share_of, defn, b_share_of, ev, evs, svs, sv, boolOf, intOf, liftE, liftB, lift, cmpD, eqD, D.plain, D.eqv, Ot.then]
/-- small shares -/
structure Sh (n : Nat) (p : Int × Int) : Prop where
  t : Bd n p.1
  b : Bd n p.2
  nz : p.2 ≠ 0
def plusS (p q : Int × Int) : Int × Int := low (p.1 * q.2 + q.1 * p.2) (p.2 * q.2)
def lessS (p q : Int × Int) : Int × Int := low (p.1 * q.2 - q.1 * p.2) (p.2 * q.2)
def timesS (p q : Int × Int) : Int × Int := low (p.1 * q.1) (p.2 * q.2)
def overS (p q : Int × Int) : Int × Int := low (p.1 * q.2) (p.2 * q.1)
section
variable {n : Nat} {p q : Int × Int} (hp : Sh n p) (hq : Sh n q) (hn : n ≤ 1000) (s : List J)
include hp hq hn
theorem e_plus : g_plus [shD p, shD q] s = .ok (shD (plusS p q), false) s := by
  have m1 := mulOk_of hp.t hq.b (by omega)
  have m2 := mulOk_of hq.t hp.b (by omega)
  have m3 := mulOk_of hp.b hq.b (by omega)
  have nz : p.2 * q.2 ≠ 0 := Int.mul_ne_zero hp.nz hq.nz
  have e := e_share (a := p.1 * q.2 + q.1 * p.2) s nz ((hp.b.mul hq.b).sm (by omega))
  simp only [shD] at e
  simp [g_plus, defn, b_plus, ev, evs, svs, sv, intOf, liftE, liftO, lift, binD, Ot.then, shD, itemsOf, at0, at1, m1, m2, m3, e, plusS]
theorem e_less : g_less [shD p, shD q] s = .ok (shD (lessS p q), false) s := by
  have m1 := mulOk_of hp.t hq.b (by omega)
  have m2 := mulOk_of hq.t hp.b (by omega)
  have m3 := mulOk_of hp.b hq.b (by omega)
  have nz : p.2 * q.2 ≠ 0 := Int.mul_ne_zero hp.nz hq.nz
  have e := e_share (a := p.1 * q.2 - q.1 * p.2) s nz ((hp.b.mul hq.b).sm (by omega))
  simp only [shD] at e
  simp [g_less, defn, b_less, ev, evs, svs, sv, intOf, liftE, liftO, lift, binD, Ot.then, shD, itemsOf, at0, at1, m1, m2, m3, e, lessS]
theorem e_times : g_times [shD p, shD q] s = .ok (shD (timesS p q), false) s := by
  have m1 := mulOk_of hp.t hq.t (by omega)
  have m3 := mulOk_of hp.b hq.b (by omega)
  have nz : p.2 * q.2 ≠ 0 := Int.mul_ne_zero hp.nz hq.nz
  have e := e_share (a := p.1 * q.1) s nz ((hp.b.mul hq.b).sm (by omega))
  simp only [shD] at e
  simp [g_times, defn, b_times, ev, evs, svs, sv, intOf, liftE, liftO, lift, binD, Ot.then, shD, itemsOf, at0, at1, m1, m3, e, timesS]
theorem e_over (h0 : q.1 ≠ 0) : g_over [shD p, shD q] s = .ok (shD (overS p q), false) s := by
  have m1 := mulOk_of hp.t hq.b (by omega)
  have m3 := mulOk_of hp.b hq.t (by omega)
  have nz : p.2 * q.1 ≠ 0 := Int.mul_ne_zero hp.nz h0
  have e := e_share (a := p.1 * q.2) s nz ((hp.b.mul hq.t).sm (by omega))
  simp only [shD] at e
  simp [g_over, defn, b_over, ev, evs, svs, sv, intOf, boolOf, liftE, liftO, liftB, lift, cmpD, eqD, D.plain, D.eqv, binD, Ot.then, shD, itemsOf, at0, at1, m1, m3, e, h0, overS]
theorem e_below : g_is_below [shD p, shD q] s = .ok (.bl (decide (p.1 * q.2 < q.1 * p.2)), false) s := by
  have m1 := mulOk_of hp.t hq.b (by omega)
  have m2 := mulOk_of hq.t hp.b (by omega)
  simp [g_is_below, defn, b_is_below, ev, evs, svs, sv, intOf, liftE, liftO, liftB, lift, cmpD, binD, Ot.then, shD, itemsOf, at0, at1, m1, m2]
theorem e_sum : g__law_sum [shD p, shD q] s = .ok (shD (plusS p q), false) s := by
  have m1 := mulOk_of hp.t hq.b (by omega)
  have m2 := mulOk_of hq.t hp.b (by omega)
  have m3 := mulOk_of hp.b hq.b (by omega)
  have nz : p.2 * q.2 ≠ 0 := Int.mul_ne_zero hp.nz hq.nz
  have e := e_low (a := p.1 * q.2 + q.1 * p.2) s nz ((hp.b.mul hq.b).sm (by omega))
  simp only [shD] at e
  simp [g__law_sum, defn, b__law_sum, ev, evs, svs, sv, intOf, liftE, liftO, lift, binD, Ot.then, shD, itemsOf, at0, at1, m1, m2, m3, e, plusS]
end
theorem e_over0 {p q : Int × Int} (h0 : q.1 = 0) (s : List J) : g_over [shD p, shD q] s = .exc "Undefined" [.str "nought"] s := by
  simp [g_over, defn, b_over, ev, evs, svs, sv, intOf, boolOf, liftE, liftO, liftB, lift, cmpD, eqD, D.plain, D.eqv, binD, Ot.then, shD, itemsOf, at0, at1, h0]
def upS (p : Int × Int) : Int := -((-p.1).fdiv p.2)
theorem e_up {n : Nat} {p : Int × Int} (hp : Sh n p) (hn : n ≤ 1000) (s : List J) : g_rounded_up [shD p] s = .ok (.int (upS p), false) s := by
  have hd := divOk_of hp.nz (hp.b.sm (by omega))
  simp [g_rounded_up, defn, b_rounded_up, ev, evs, svs, sv, intOf, liftE, liftO, lift, binD, Ot.then, shD, itemsOf, at0, at1, hd, upS]
theorem e_lup {n : Nat} {p : Int × Int} (hp : Sh n p) (hn : n ≤ 1000) (s : List J) : g__law_up [shD p] s = .ok (.int (upS p), false) s := by
  have hd := divOk_of hp.nz (hp.b.sm (by omega))
  simp [g__law_up, defn, b__law_up, ev, evs, svs, sv, intOf, liftE, liftO, lift, binD, Ot.then, shD, itemsOf, at0, at1, hd, upS]
/-! ### the same -/
theorem e_same_bl (n : Nat) (b : Bool) (s : List J) : gr__law_same (n + 1) [.bl b, .bl b] s = .ok (.bl true, false) s := by
  cases b <;> simp [gr__law_same, defn, b__law_same, ev, evs, evb, svs, sv, boolOf, intOf, liftE, liftB, lift, cmpD, isD, Ot.then, isi_blB, isi_blI]
theorem e_same_int (n : Nat) (i : Int) (s : List J) : gr__law_same (n + 1) [.int i, .int i] s = .ok (.bl true, false) s := by
  simp [gr__law_same, defn, b__law_same, ev, evs, evb, svs, sv, boolOf, intOf, liftE, liftB, lift, cmpD, eqD, D.plain, D.eqv, isD, Ot.then, isi_intB, isi_intI]
theorem e_same_str (n : Nat) (i : Str) (s : List J) : gr__law_same (n + 1) [.str i, .str i] s = .ok (.bl true, false) s := by
  simp [gr__law_same, defn, b__law_same, ev, evs, evb, svs, sv, boolOf, intOf, liftE, liftB, lift, cmpD, eqD, D.plain, D.eqv, isD, Ot.then, isi_strB, isi_strI, isi_strS]
theorem same_1 (g : Fn J) (x y a b : D) (k : Nat) (t u : D) (s : List J) (hk : atD [x, y] (k : Int) = some t) (hk2 : atD [a, b] (k : Int) = some u) (hg : g [t, u] s = .ok (.bl true, false) s) (z : DL.Slot) :
    svs flds (b__law_same_1 g) ([.sh (.tup [x, y]), .sh (.tup [a, b]), z].set 2 (.sh (.int (k : Int)))) s = .nx [.sh (.tup [x, y]), .sh (.tup [a, b]), .sh (.int (k : Int))] s := by
  simp [b__law_same_1, ev, evs, svs, sv, boolOf, intOf, liftE, liftB, liftO, lift, Ot.then, itemsOf, hk, hk2, hg]
theorem e_same_sh (n : Nat) (p : Int × Int) (s : List J) : gr__law_same (n + 2) [shD p, shD p] s = .ok (.bl true, false) s := by
  have r2 : rngOk 2 = true := by decide
  have r3 : intsUp 0 (2 : Int).toNat = [.int ((0 : Nat) : Int), .int ((1 : Nat) : Int)] := by rfl
  have l1 := loop_step (x := "k") (ds := [.int ((1 : Nat) : Int)]) (same_1 (gr__law_same (n + 1)) (.int p.1) (.int p.2) (.int p.1) (.int p.2) 0 (.int p.1) (.int p.1) s (at0 _ _) (at0 _ _) (e_same_int n p.1 s) .no)
  have l2 := loop_step (x := "k") (ds := []) (same_1 (gr__law_same (n + 1)) (.int p.1) (.int p.2) (.int p.1) (.int p.2) 1 (.int p.2) (.int p.2) s (at1 _ _ _) (at1 _ _ _) (e_same_int n p.2 s) (.sh (.int ((0 : Nat) : Int))))
  have h1 : (D.tup [.int p.1, .int p.2]) = shD p := rfl
  show defn flds 3 (b__law_same (gr__law_same (n + 1))) [shD p, shD p] s = _
  simp only [defn, b__law_same, svs, sv, List.map_cons, List.map_nil, List.length_cons, List.length_nil]
  simp only [ev, evs, evb, boolOf, intOf, liftE, liftB, lift, R.bind_ok, Ot.then, shD, isi_tupB, isi_tupI, isi_tupS, isi_tupT, bi_lenT, cmpD, List.getElem?_cons_zero, List.getElem?_cons_succ, List.cons_append, List.nil_append, List.replicate, Nat.reduceSub, if_true, if_false, Bool.false_eq_true, Bool.not_true, Bool.not_false]
  have e2 : eqD (.int (([D.int p.1, D.int p.2].length : Nat) : Int)) (.int (([D.int p.1, D.int p.2].length : Nat) : Int)) = some true := by rfl
  simp only [List.length_cons, List.length_nil, Nat.zero_add, Nat.reduceAdd] at e2
  simp only [e2, Option.map_some, Bool.not_true, Bool.false_eq_true, if_false, List.length_cons, List.length_nil, Nat.zero_add, Nat.reduceAdd]
  have r2' : rngOk ((2 : Nat) : Int) = true := r2
  have r3' : intsUp 0 ((2 : Nat) : Int).toNat = [.int ((0 : Nat) : Int), .int ((1 : Nat) : Int)] := r3
  simp only [ev, evs, evb, boolOf, intOf, liftE, liftB, lift, R.bind_ok, Ot.then, bi_lenT, r2', r3', if_true, if_false, Bool.false_eq_true, itemsOf, List.getElem?_cons_zero, List.getElem?_cons_succ, List.length_cons, List.length_nil, Nat.zero_add, Nat.reduceAdd, l1, l2]
  simp [loopRun]
end K00

set_option Elab.async false
set_option linter.all false
set_option maxRecDepth 100000
set_option maxHeartbeats 8000000
namespace K00
open PySem PySem.Spec PyProof.Rows L2 DL
theorem lc_run {i : Nat} {x : Str} {test : DL.Env → List J → R J Bool} {el : DL.Env → List J → R J (D × Bool)} {ρ : DL.Env} {s : List J} (p : D → Bool) (f : D → D) : ∀ (ds acc : List D), (∀ d ∈ ds, test (ρ.set i (.sh d)) s = .ok (p d) s ∧ (p d = true → ∃ u, el (ρ.set i (.sh d)) s = .ok (f d, u) s)) →
    acc.length + ds.length ≤ 16777216 → lcRun (.nm i x) test el ρ ds acc s = .ok (.lst (acc ++ (ds.filter p).map f), true) s
  | [], acc, _, _ => by simp [lcRun]
  | d :: ds, acc, h, hl => by
    obtain ⟨h1, h2⟩ := h d List.mem_cons_self
    have hr : ∀ e ∈ ds, _ := fun e he => h e (List.mem_cons_of_mem _ he)
    cases hp : p d with
    | false =>
      rw [hp] at h1
      simp only [lcRun, setTg, h1]
      rw [lc_run p f ds acc hr (by simp at hl; omega), List.filter_cons_of_neg (by simp [hp])]
    | true =>
      rw [hp] at h1
      obtain ⟨u, h3⟩ := h2 hp
      simp only [lcRun, setTg, h1, h3]
      rw [if_pos (by simp at hl; omega), lc_run p f ds (acc ++ [f d]) hr (by simp at hl ⊢; omega), List.filter_cons_of_pos hp]
      simp
structure JarOk (n : Nat) (j : List D) : Prop where
  ex : ∃ (gs : List Int) (m c : Int), j = [.lst (gs.map .int), .int m, .int c] ∧ (∀ g ∈ gs, 0 ≤ g) ∧ gs.length ≤ 63 ∧ Bd 40 m ∧ 0 ≤ c ∧ c ≤ n
theorem emod_of {a b : Int} (h : 0 < b) : 0 ≤ a.fmod b ∧ a.fmod b < b := ⟨Int.fmod_nonneg_of_pos a h, Int.fmod_lt_of_pos a h⟩
theorem e_pick {n : Nat} {j : List D} {many : Int} (hj : JarOk n j) (hn : n ≤ 1000) (h0 : 0 < many) (h1 : many < 2 ^ 60) :
    ∃ told j', g__law_pick [.box 0, .int many] [j] = .ok (.int told, false) [j'] ∧ 0 ≤ told ∧ told < many ∧ JarOk (n + 1) j' := by
  obtain ⟨gs, m, c, rfl, hg, hl, hm, c0, c1⟩ := hj.ex
  have n0 : ¬ many = 0 := by omega
  have dm : divOk many = true := divOk_of n0 (show many.natAbs < 2 ^ (4000 : Nat) from Nat.lt_of_lt_of_le (m := 2 ^ 60) (by omega) (Nat.pow_le_pow_right (by omega) (by omega)))
  have ix2 : ∀ (x y z : D), atD [x, y, z] 2 = some z := fun x y z => by rfl
  have s2 : ∀ (x y z w : D), noBox w = true → setL [x, y, z] 2 w = some [x, y, w] := fun x y z w hw => by unfold setL; rw [if_pos hw]; rfl
  have s1 : ∀ (x y z w : D), noBox w = true → setL [x, y, z] 1 w = some [x, w, z] := fun x y z w hw => by unfold setL; rw [if_pos hw]; rfl
  have s0 : ∀ (x y z w : D), noBox w = true → setL [x, y, z] 0 w = some [w, y, z] := fun x y z w hw => by unfold setL; rw [if_pos hw]; rfl
  have nbi : ∀ i : Int, noBox (.int i) = true := fun i => by simp [noBox]
  have nbl : ∀ gs : List Int, noBox (.lst (gs.map .int)) = true := fun gs => by
    simp only [noBox]
    induction gs with
    | nil => rfl
    | cons g r ih => simp [noBoxs, noBox, ih]
  cases gs with
  | nil =>
    have k1 : mulOk m 48271 = true := mulOk_of (m := 20) hm (show Bd 20 48271 by unfold Bd; decide) (by omega)
    have k2 : mulOk (c + 1) 1009 = true := mulOk_of (n := 20) (m := 20) (show (c + 1).natAbs < 2 ^ 20 by omega) (show Bd 20 1009 by unfold Bd; decide) (by omega)
    let mx := (m * 48271 + (c + 1) * 1009 + 1).fmod 2147483647
    have hmx := emod_of (a := m * 48271 + (c + 1) * 1009 + 1) (b := 2147483647) (by decide)
    have d7 : divOk 7 = true := by decide
    have d3 : divOk 32749 = true := by decide
    have hr := emod_of (a := mx.fdiv 7 + mx.fdiv 32749) h0
    refine ⟨(mx.fdiv 7 + mx.fdiv 32749).fmod many, _, ?_, hr.1, hr.2, ⟨[], mx, c + 1, rfl, hg, hl, ?_, by omega, by omega⟩⟩
    · simp [g__law_pick, defn, b__law_pick, ev, evs, svs, sv, boolOf, intOf, liftE, liftB, liftO, lift, cmpD, binD, Ot.then, setTg, at0, at1, ix2, s2, s1, s0, nbi, bi_lenL, bi_int, k1, k2, d7, d3, n0, mx]
    · show mx.natAbs < 2 ^ 40
      omega
  | cons g gs =>
    have g0 : 0 ≤ g := hg g List.mem_cons_self
    have hr := emod_of (a := g) h0
    have hlen : (0 : Int) < ((g :: gs).map D.int).length := by simp
    have hcut : cutL ((g :: gs).map D.int) (some 1) none = gs.map D.int := by
      unfold cutL cutAt
      simp
      exact List.take_of_length_le (by simp)
    by_cases hrest : g.fdiv many > 0
    · refine ⟨g.fmod many, _, ?_, hr.1, hr.2, ⟨g.fdiv many :: gs, m, c + 1, rfl, fun x hx => ?_, by simpa using hl, hm, by omega, by omega⟩⟩
      · have nb2 : noBox (.lst ([D.int (g.fdiv many)] ++ gs.map D.int)) = true := nbl (g.fdiv many :: gs)
        have hl2 : 1 + gs.length ≤ 16777216 := by simp at hl; omega
        have nb3 : noBox (.lst (D.int (g.fdiv many) :: gs.map D.int)) = true := nbl (g.fdiv many :: gs)
        simp only [List.map_cons] at hcut
        simp [g__law_pick, defn, b__law_pick, ev, evs, svs, sv, boolOf, intOf, liftE, liftB, liftO, lift, cmpD, binD, Ot.then, setTg, at0, at1, ix2, s2, s1, s0, nbi, nb3, bi_lenL, bi_int, itemsOf, isSkip, dm, n0, hrest, hcut, hl2]
      · rcases List.mem_cons.mp hx with rfl | hx
        · omega
        · exact hg x (List.mem_cons_of_mem _ hx)
    · refine ⟨g.fmod many, _, ?_, hr.1, hr.2, ⟨gs, m, c + 1, rfl, fun x hx => hg x (List.mem_cons_of_mem _ hx), by simp at hl; omega, hm, by omega, by omega⟩⟩
      have nb3 := nbl gs
      simp only [List.map_cons] at hcut
      simp [g__law_pick, defn, b__law_pick, ev, evs, svs, sv, boolOf, intOf, liftE, liftB, liftO, lift, cmpD, binD, Ot.then, setTg, at0, at1, ix2, s2, s1, s0, nbi, nb3, bi_lenL, bi_int, itemsOf, isSkip, dm, n0, hrest, hcut]
end K00

set_option Elab.async false
set_option linter.all false
set_option maxRecDepth 100000
set_option maxHeartbeats 8000000
namespace K00
open PySem PySem.Spec PyProof.Rows L2 DL
theorem JarOk.mono {n m : Nat} {j : List D} (h : JarOk n j) (k : n ≤ m) : JarOk m j := by
  obtain ⟨gs, mm, c, a, b, d, e, f, g⟩ := h.ex
  exact ⟨gs, mm, c, a, b, d, e, f, by omega⟩
theorem e_number {n : Nat} {j : List D} (hj : JarOk n j) (hn : n ≤ 900) : ∃ v j', g__law_number [.box 0] [j] = .ok (.int v, false) [j'] ∧ Bd 40 v ∧ JarOk (n + 4) j' := by
  obtain ⟨kind, j1, e1, a1, b1, J1⟩ := e_pick hj (by omega) (many := 6) (by omega) (by omega)
  obtain ⟨told, j2, e2, a2, b2, J2⟩ := e_pick J1 (by omega) (many := 3) (by omega) (by omega)
  have last : ∀ (t : Int) (j3 : List D), JarOk (n + 3) j3 → Bd 40 t → ∃ j4 z, g__law_pick [.box 0, .int 2] [j3] = .ok (.int z, false) [j4] ∧ Bd 40 (if z = 0 then -t else t) ∧ JarOk (n + 4) j4 := fun t j3 J3 ht => by
    obtain ⟨z, j4, e4, a4, b4, J4⟩ := e_pick J3 (by omega) (many := 2) (by omega) (by omega)
    refine ⟨j4, z, e4, ?_, J4⟩
    split
    · exact ht.neg
    · exact ht
  have p12 : binD .Pow (.int 10) (.int 12) = some (.int 1000000000000, false) := by rfl
  have bd : ∀ t : Int, 0 ≤ t → t < 1000000000001 → Bd 40 t := fun t h1 h2 => by unfold Bd; omega
  have hk : kind = 0 ∨ kind = 1 ∨ kind = 2 ∨ kind = 3 ∨ kind = 4 ∨ kind = 5 := by omega
  rcases hk with rfl | rfl | rfl | rfl | rfl | rfl
  · obtain ⟨j4, z, e4, hz, J4⟩ := last told j2 (J2.mono (by omega)) (bd told a2 (by omega))
    refine ⟨_, j4, ?_, hz, J4⟩
    by_cases hz0 : z = 0 <;> simp [g__law_number, defn, b__law_number, ev, evs, svs, sv, boolOf, intOf, liftE, liftB, lift, cmpD, eqD, D.plain, D.eqv, Ot.then, setTg, e1, e2, e4, hz0]
  · obtain ⟨t3, j3, e3, a3, b3, J3⟩ := e_pick J2 (by omega) (many := 13) (by omega) (by omega)
    obtain ⟨j4, z, e4, hz, J4⟩ := last t3 j3 J3 (bd _ a3 (by omega))
    refine ⟨_, j4, ?_, hz, J4⟩
    by_cases hz0 : z = 0 <;> simp [g__law_number, defn, b__law_number, ev, evs, svs, sv, boolOf, intOf, liftE, liftB, lift, cmpD, eqD, D.plain, D.eqv, Ot.then, setTg, e1, e2, e3, e4, hz0]
  · obtain ⟨t3, j3, e3, a3, b3, J3⟩ := e_pick J2 (by omega) (many := 5000) (by omega) (by omega)
    obtain ⟨j4, z, e4, hz, J4⟩ := last t3 j3 J3 (bd _ a3 (by omega))
    refine ⟨_, j4, ?_, hz, J4⟩
    by_cases hz0 : z = 0 <;> simp [g__law_number, defn, b__law_number, ev, evs, svs, sv, boolOf, intOf, liftE, liftB, lift, cmpD, eqD, D.plain, D.eqv, Ot.then, setTg, e1, e2, e3, e4, hz0]
  · obtain ⟨t3, j3, e3, a3, b3, J3⟩ := e_pick J2 (by omega) (many := 40) (by omega) (by omega)
    obtain ⟨j4, z, e4, hz, J4⟩ := last (999999999999 - t3) j3 J3 (bd _ (by omega) (by omega))
    refine ⟨_, j4, ?_, hz, J4⟩
    by_cases hz0 : z = 0 <;> simp [g__law_number, defn, b__law_number, ev, evs, svs, sv, boolOf, intOf, liftE, liftB, lift, cmpD, eqD, D.plain, D.eqv, binD, Ot.then, setTg, e1, e2, e3, e4, hz0]
  · obtain ⟨t3, j3, e3, a3, b3, J3⟩ := e_pick J2 (by omega) (many := 1000000000000) (by omega) (by omega)
    obtain ⟨j4, z, e4, hz, J4⟩ := last t3 j3 J3 (bd _ a3 (by omega))
    refine ⟨_, j4, ?_, hz, J4⟩
    by_cases hz0 : z = 0 <;> simp [g__law_number, defn, b__law_number, ev, evs, svs, sv, boolOf, intOf, liftE, liftB, lift, cmpD, eqD, D.plain, D.eqv, p12, Ot.then, setTg, e1, e2, e3, e4, hz0]
  · obtain ⟨t3, j3, e3, a3, b3, J3⟩ := e_pick J2 (by omega) (many := 30) (by omega) (by omega)
    have k1 : mulOk 30030 (1 + t3) = true := mulOk_of (n := 20) (m := 20) (show Bd 20 30030 by unfold Bd; decide) (show (1 + t3).natAbs < 2 ^ 20 by omega) (by omega)
    obtain ⟨j4, z, e4, hz, J4⟩ := last (30030 * (1 + t3)) j3 J3 (bd _ (by omega) (by omega))
    refine ⟨_, j4, ?_, hz, J4⟩
    by_cases hz0 : z = 0 <;> simp [g__law_number, defn, b__law_number, ev, evs, svs, sv, boolOf, intOf, liftE, liftB, lift, cmpD, eqD, D.plain, D.eqv, binD, Ot.then, setTg, e1, e2, e3, e4, hz0, k1]
/-- lowest terms of small shares -/
theorem low_b {a b : Int} (hb : b ≠ 0) : 0 < (low a b).2 ∧ (low a b).1.natAbs ≤ a.natAbs ∧ (low a b).2.natAbs ≤ b.natAbs ∧ Nat.gcd (low a b).1.natAbs (low a b).2.natAbs = 1 ∧ ((low a b).1 = 0 ↔ a = 0) := by
  have gp : 0 < Nat.gcd a.natAbs b.natAbs := Nat.gcd_pos_of_pos_right _ (by omega)
  obtain ⟨x, hx⟩ := Nat.gcd_dvd_left a.natAbs b.natAbs
  obtain ⟨y, hy⟩ := Nat.gcd_dvd_right a.natAbs b.natAbs
  have hco : Nat.gcd x y = 1 := by
    have h1 : Nat.gcd a.natAbs b.natAbs * Nat.gcd x y = Nat.gcd a.natAbs b.natAbs * 1 := by
      rw [Nat.mul_one, ← Nat.gcd_mul_left, ← hx, ← hy]
    exact Nat.eq_of_mul_eq_mul_left gp h1
  have xl : x ≤ a.natAbs := by
    rw [hx]
    exact Nat.le_mul_of_pos_left x gp
  have yl : y ≤ b.natAbs := by
    rw [hy]
    exact Nat.le_mul_of_pos_left y gp
  have yp : 0 < y := by
    rcases Nat.eq_zero_or_pos y with h | h
    · rw [h, Nat.mul_zero] at hy; omega
    · exact h
  have key : ∀ z : Int, ∀ w : Nat, z.natAbs = Nat.gcd a.natAbs b.natAbs * w → z.fdiv (gI a b) = if z < 0 then -(w : Int) else (w : Int) := fun z w hz => by
    unfold gI
    have g1 : ((Nat.gcd a.natAbs b.natAbs : Nat) : Int) ≠ 0 := by omega
    split
    · have : z = ((Nat.gcd a.natAbs b.natAbs : Nat) : Int) * (-(w : Int)) := by
        have : (z.natAbs : Int) = ((Nat.gcd a.natAbs b.natAbs : Nat) : Int) * (w : Int) := by rw [hz]; push_cast; rfl
        rw [Int.mul_neg, ← this]; omega
      rw [this, Int.mul_fdiv_cancel_left _ g1]
    · have : z = ((Nat.gcd a.natAbs b.natAbs : Nat) : Int) * (w : Int) := by
        have : (z.natAbs : Int) = ((Nat.gcd a.natAbs b.natAbs : Nat) : Int) * (w : Int) := by rw [hz]; push_cast; rfl
        rw [← this]; omega
      rw [this, Int.mul_fdiv_cancel_left _ g1]
  have x0 : x = 0 ↔ a = 0 := by
    constructor
    · intro h
      rw [h, Nat.mul_zero] at hx
      omega
    · intro h
      have hz : Nat.gcd a.natAbs b.natAbs * x = 0 := by rw [← hx, h]; rfl
      exact (Nat.mul_eq_zero.mp hz).resolve_left (by omega)
  unfold low
  by_cases hlt : b < 0
  · rw [if_pos hlt]
    have e1 := key (-a) x (by rw [Int.natAbs_neg]; exact hx)
    have e2 := key (-b) y (by rw [Int.natAbs_neg]; exact hy)
    rw [if_neg (by omega)] at e2
    simp only [e1, e2]
    refine ⟨by omega, ?_, by omega, ?_, ?_⟩
    · split <;> omega
    · split
      · rw [Int.natAbs_neg]; exact hco
      · exact hco
    · split <;> omega
  · rw [if_neg hlt]
    have e1 := key a x hx
    have e2 := key b y hy
    rw [if_neg (by omega)] at e2
    simp only [e1, e2]
    refine ⟨by omega, ?_, by omega, ?_, ?_⟩
    · split <;> omega
    · split
      · rw [Int.natAbs_neg]; exact hco
      · exact hco
    · split <;> omega
theorem Sh.of_low {n : Nat} {a b : Int} (ha : Bd n a) (hb : Bd n b) (h0 : b ≠ 0) : Sh n (low a b) := by
  obtain ⟨h1, h2, h3, _⟩ := low_b (a := a) h0
  exact ⟨Nat.lt_of_le_of_lt h2 ha, Nat.lt_of_le_of_lt h3 hb, by omega⟩
/-- a share in lowest terms -/
structure Lo (n : Nat) (p : Int × Int) : Prop where
  sh : Sh n p
  pos : 0 < p.2
  co : Nat.gcd p.1.natAbs p.2.natAbs = 1
theorem Lo.of_low {n : Nat} {a b : Int} (ha : Bd n a) (hb : Bd n b) (h0 : b ≠ 0) : Lo n (low a b) := by
  obtain ⟨h1, h2, h3, h4, _⟩ := low_b (a := a) h0
  exact ⟨Sh.of_low ha hb h0, h1, h4⟩
theorem Lo.mono {n m : Nat} {p : Int × Int} (h : Lo n p) (k : n ≤ m) : Lo m p := ⟨⟨h.sh.t.mono k, h.sh.b.mono k, h.sh.nz⟩, h.pos, h.co⟩
theorem e_lshare {n : Nat} {j : List D} (hj : JarOk n j) (hn : n ≤ 890) : ∃ p j', g__law_share [.box 0] [j] = .ok (shD p, false) [j'] ∧ Lo 40 p ∧ JarOk (n + 8) j' := by
  obtain ⟨v, j1, e1, bv, J1⟩ := e_number hj (by omega)
  obtain ⟨u, j2, e2, bu, J2⟩ := e_number J1 (by omega)
  let b : Int := if (v.natAbs : Int) > 1 then (v.natAbs : Int) else 1
  have hb : b ≠ 0 := by show (if (v.natAbs : Int) > 1 then (v.natAbs : Int) else 1) ≠ 0; split <;> omega
  have bb : Bd 40 b := by
    show (if (v.natAbs : Int) > 1 then (v.natAbs : Int) else 1).natAbs < 2 ^ 40
    have : v.natAbs < 2 ^ 40 := bv
    split <;> omega
  have ha : biD "abs" [.int v] = some (.int (v.natAbs : Int), false) := by rw [bi_abs, abs_nat]
  have hm : biD "max" [.int 1, .int (v.natAbs : Int)] = some (.int b, false) := bi_max 1 _
  have el := e_low (a := u) [j2] hb (bb.sm (by omega))
  refine ⟨low u b, j2, ?_, Lo.of_low bu bb hb, J2⟩
  simp [g__law_share, defn, b__law_share, ev, evs, svs, sv, liftE, lift, Ot.then, setTg, e1, ha, e2, hm, el]
theorem e_second {n : Nat} {j : List D} {p : Int × Int} (hp : Lo 40 p) (hj : JarOk n j) (hn : n ≤ 880) : ∃ q j', g__law_second [.box 0, shD p] [j] = .ok (shD q, false) [j'] ∧ Lo 40 q ∧ JarOk (n + 9) j' := by
  obtain ⟨kind, j1, e1, a1, b1, J1⟩ := e_pick hj (by omega) (many := 6) (by omega) (by omega)
  obtain ⟨o, j2, e2, lo, J2⟩ := e_lshare J1 (by omega)
  have J2' : JarOk (n + 9) j2 := J2.mono (by omega)
  have hk : kind = 1 ∨ kind = 2 ∨ kind = 3 ∨ (kind = 4 ∧ p.1 ≠ 0) ∨ (kind ≠ 1 ∧ kind ≠ 2 ∧ kind ≠ 3 ∧ ¬ (kind = 4 ∧ p.1 ≠ 0)) := by omega
  simp only [shD] at e2
  rcases hk with rfl | rfl | rfl | ⟨rfl, h4⟩ | ⟨h1, h2, h3, h4⟩
  · refine ⟨p, j2, ?_, hp, J2'⟩
    simp [g__law_second, defn, b__law_second, ev, evs, evb, svs, sv, boolOf, intOf, liftE, liftB, liftO, lift, cmpD, eqD, D.plain, D.eqv, Ot.then, setTg, shD, e1, e2, itemsOf, at0, at1]
  · refine ⟨(-p.1, p.2), j2, ?_, ⟨⟨hp.sh.t.neg, hp.sh.b, hp.sh.nz⟩, hp.pos, by simp only [Int.natAbs_neg]; exact hp.co⟩, J2'⟩
    simp [g__law_second, defn, b__law_second, ev, evs, evb, svs, sv, boolOf, intOf, liftE, liftB, liftO, lift, cmpD, eqD, D.plain, D.eqv, Ot.then, setTg, shD, e1, e2, itemsOf, at0, at1]
  · have el := e_low (a := o.1) [j2] hp.sh.nz (hp.sh.b.sm (by omega))
    simp only [shD] at el
    refine ⟨low o.1 p.2, j2, ?_, Lo.of_low lo.sh.t hp.sh.b hp.sh.nz, J2'⟩
    simp [g__law_second, defn, b__law_second, ev, evs, evb, svs, sv, boolOf, intOf, liftE, liftB, liftO, lift, cmpD, eqD, D.plain, D.eqv, Ot.then, setTg, shD, e1, e2, itemsOf, at0, at1, el]
  · have el := e_low (a := p.2) [j2] h4 (hp.sh.t.sm (by omega))
    simp only [shD] at el
    refine ⟨low p.2 p.1, j2, ?_, Lo.of_low hp.sh.b hp.sh.t h4, J2'⟩
    simp [g__law_second, defn, b__law_second, ev, evs, evb, svs, sv, boolOf, intOf, liftE, liftB, liftO, lift, cmpD, eqD, D.plain, D.eqv, Ot.then, setTg, shD, e1, e2, itemsOf, at0, at1, el, h4]
  · refine ⟨o, j2, ?_, lo, J2'⟩
    by_cases k4 : kind = 4
    · have p0 : p.1 = 0 := by omega
      simp [g__law_second, defn, b__law_second, ev, evs, evb, svs, sv, boolOf, intOf, liftE, liftB, liftO, lift, cmpD, eqD, D.plain, D.eqv, Ot.then, setTg, shD, e1, e2, itemsOf, at0, at1, h1, h2, h3, k4, p0]
    · simp [g__law_second, defn, b__law_second, ev, evs, evb, svs, sv, boolOf, intOf, liftE, liftB, liftO, lift, cmpD, eqD, D.plain, D.eqv, Ot.then, setTg, shD, e1, e2, itemsOf, at0, at1, h1, h2, h3, k4]
end K00

set_option Elab.async false
set_option linter.all false
set_option maxRecDepth 100000
set_option maxHeartbeats 8000000
namespace K00
open PySem PySem.Spec PyProof.Rows L2 DL
theorem same_sh (p : Int × Int) (s : List J) : g__law_same [shD p, shD p] s = .ok (.bl true, false) s := e_same_sh 4 p s
theorem same_int (i : Int) (s : List J) : g__law_same [.int i, .int i] s = .ok (.bl true, false) s := e_same_int 5 i s
theorem same_bl (i : Bool) (s : List J) : g__law_same [.bl i, .bl i] s = .ok (.bl true, false) s := e_same_bl 5 i s
theorem same_str (i : Str) (s : List J) : g__law_same [.str i, .str i] s = .ok (.bl true, false) s := e_same_str 5 i s
theorem items_sh (p : Int × Int) : itemsOf (shD p) = some [.int p.1, .int p.2] := rfl
theorem ix_what : ixStr "what" (flds "Undefined") = some 0 := by rfl
theorem ix_value : ixStr "value" (flds "InvalidNumber") = some 0 := by rfl
theorem y_und : yes_Undefined "Undefined" = true := by rfl
theorem y_num : yes_InvalidNumber "InvalidNumber" = true := by rfl
theorem e_nought {p q : Int × Int} (h0 : q.1 = 0) (s : List J) : g__law_nought_refused [shD p, shD q] s = .ok (.bl true, false) s := by
  have e := e_over0 (p := p) h0 s
  simp [g__law_nought_refused, defn, b__law_nought_refused, ev, evs, svs, sv, liftE, liftO, Ot.then, Ot.gone, e, y_und, ix_what, same_str]
theorem e_bottom (a : Int) (s : List J) : g__law_bottom_refused [.int a] s = .ok (.bl true, false) s := by
  have e := e_share0 (a := a) s
  simp [g__law_bottom_refused, defn, b__law_bottom_refused, ev, evs, svs, sv, liftE, liftO, Ot.then, Ot.gone, e, y_num, ix_value, same_int]
theorem ord_oo (x y : D) : ordK ["one", "other"] ["other", "one"] [] [x, y] = some [y, x] := by rfl
theorem ord_o (x : D) : ordK ["one"] ["one"] [] [x] = some [x] := by rfl
theorem low_zero {b : Int} (h : 0 < b) : low 0 b = (0, 1) := by
  unfold low gI
  rw [if_neg (by omega)]
  have e : (((0 : Int).natAbs.gcd b.natAbs : Nat) : Int) = b := by simp; omega
  rw [e, Int.fdiv_self (by omega)]
  simp
theorem ps_less : sg_less.ps = (["one", "other"] : List Str) := rfl
theorem ps_times : sg_times.ps = (["one", "other"] : List Str) := rfl
theorem ps_below : sg_is_below.ps = (["one", "other"] : List Str) := rfl
theorem ps_up : sg_rounded_up.ps = (["one"] : List Str) := rfl
theorem e_pair {p q : Int × Int} (hp : Lo 40 p) (hq : Lo 40 q) (s : List J) : g__law_pair_right [shD p, shD q] s = .ok (.bl true, false) s := by
  have P := hp.sh
  have Q := hq.sh
  have nz : p.2 * q.2 ≠ 0 := Int.mul_ne_zero P.nz Q.nz
  have sm : Sm (p.2 * q.2) := (P.b.mul Q.b).sm (by omega)
  have m1 := mulOk_of P.t Q.b (by omega)
  have m2 := mulOk_of Q.t P.b (by omega)
  have m3 := mulOk_of P.b Q.b (by omega)
  have m4 := mulOk_of P.t Q.t (by omega)
  have m5 := mulOk_of P.b Q.t (by omega)
  have e1 := e_plus P Q (by omega) s
  have e2 := e_sum P Q (by omega) s
  have e3 := e_less P Q (by omega) s
  have e4 : g__law_low [.int (p.1 * q.2 - q.1 * p.2), .int (p.2 * q.2)] s = .ok (shD (lessS p q), false) s := e_low s nz sm
  have e5 := e_less Q P (by omega) s
  have e6 : g__law_low [.int (q.1 * p.2 - p.1 * q.2), .int (p.2 * q.2)] s = .ok (shD (lessS q p), false) s := by
    have := e_low (a := q.1 * p.2 - p.1 * q.2) s nz sm
    rw [this]
    unfold lessS
    rw [Int.mul_comm q.2 p.2]
  have e7 := e_times P Q (by omega) s
  have e8 : g__law_low [.int (p.1 * q.1), .int (p.2 * q.2)] s = .ok (shD (timesS p q), false) s := e_low s nz sm
  have e9 := e_below P Q (by omega) s
  have e10 := e_below Q P (by omega) s
  have e11 : g_is_below [shD p, shD p] s = .ok (.bl false, false) s := by rw [e_below P P (by omega) s]; simp
  have e12 : g_less [shD p, shD p] s = .ok (shD (0, 1), false) s := by
    rw [e_less P P (by omega) s]
    unfold lessS
    rw [Int.sub_self, low_zero (Int.mul_pos hp.pos hp.pos)]
  have e12' : g__law_same [shD (0, 1), .tup [.int 0, .int 1]] s = .ok (.bl true, false) s := same_sh (0, 1) s
  have e13 := e_up P (by omega) s
  have e14 := e_lup P (by omega) s
  have e15 := e_up Q (by omega) s
  have e16 := e_lup Q (by omega) s
  by_cases h0 : q.1 = 0
  · have e17 := e_nought (p := p) h0 s
    have he : eqD (.int q.1) (.int 0) = some true := by simp [eqD, D.plain, D.eqv, h0]
    simp [g__law_pair_right, defn, b__law_pair_right, ev, evs, evb, svs, sv, boolOf, intOf, liftE, liftB, liftO, lift, cmpD, he, binD, Ot.then, setTg, items_sh, at0, at1, ps_less, ps_times, ps_below, ps_up, ord_oo, ord_o, m1, m2, m3, m4, m5, e1, e2, e3, e4, e5, e6, e7, e8, e9, e10, e11, e12, e12', e13, e14, e15, e16, e17, same_sh, same_int, same_bl]
  · have nz2 : p.2 * q.1 ≠ 0 := Int.mul_ne_zero P.nz h0
    have he : eqD (.int q.1) (.int 0) = some false := by simp [eqD, D.plain, D.eqv, h0]
    have e17 := e_over P Q (by omega) s h0
    have e18 : g__law_low [.int (p.1 * q.2), .int (p.2 * q.1)] s = .ok (shD (overS p q), false) s := e_low s nz2 ((P.b.mul Q.t).sm (by omega))
    simp [g__law_pair_right, defn, b__law_pair_right, ev, evs, evb, svs, sv, boolOf, intOf, liftE, liftB, liftO, lift, cmpD, he, binD, Ot.then, setTg, items_sh, at0, at1, ps_less, ps_times, ps_below, ps_up, ord_oo, ord_o, m1, m2, m3, m4, m5, e1, e2, e3, e4, e5, e6, e7, e8, e9, e10, e11, e12, e12', e13, e14, e15, e16, e17, e18, same_sh, same_int, same_bl]
end K00

set_option Elab.async false
set_option linter.all false
set_option maxRecDepth 100000
set_option maxHeartbeats 8000000
namespace K00
open PySem PySem.Spec PyProof.Rows L2 DL
theorem loop_inv {i : Nat} {x : Str} {body : DL.Env → List J → Ot J} (Inv : Nat → DL.Env → List J → Prop) (P : D → Prop) (m : Nat) : ∀ (ds : List D) (n : Nat) (ρ : DL.Env) (s : List J), Inv n ρ s → n + ds.length ≤ m → (∀ d ∈ ds, P d) →
    (∀ n d ρ s, n < m → P d → Inv n ρ s → ∃ ρ' s', body (ρ.set i (.sh d)) s = .nx ρ' s' ∧ Inv (n + 1) ρ' s') → ∃ ρ' s', loopRun (.nm i x) body ds ρ s = .nx ρ' s' ∧ Inv (n + ds.length) ρ' s'
  | [], n, ρ, s, h, _, _, _ => ⟨ρ, s, rfl, h⟩
  | d :: ds, n, ρ, s, h, hl, hP, st => by
    obtain ⟨ρ1, s1, e, h1⟩ := st n d ρ s (by simp at hl; omega) (hP d List.mem_cons_self) h
    obtain ⟨ρ2, s2, e2, h2⟩ := loop_inv Inv P m ds (n + 1) ρ1 s1 h1 (by simp at hl; omega) (fun y hy => hP y (List.mem_cons_of_mem _ hy)) st
    exact ⟨ρ2, s2, by rw [loop_step e, e2], by rw [List.length_cons, show n + (ds.length + 1) = n + 1 + ds.length by omega]; exact h2⟩
theorem it_lst (xs : List D) : itemsOf (.lst xs) = some xs := rfl
theorem ord_ba (x y : D) : ordK ["a", "b"] ["b", "a"] [] [x, y] = some [y, x] := by rfl
theorem ps_share : sg_share_of.ps = (["a", "b"] : List Str) := rfl
theorem e_made {n : Nat} {j : List D} (hj : JarOk n j) (hn : n ≤ 800) : ∃ j', g__law_made_right [.box 0] [j] = .ok (.bl true, false) [j'] ∧ JarOk (n + 36) j' := by
  have r4 : rngOk 4 = true := by decide
  obtain ⟨ρ', s', hl, hi⟩ := loop_inv (x := "k") (i := 1) (body := fun ρ s => svs flds b__law_made_right_1 ρ s) (fun m ρ s => ∃ a b c d j, ρ = [.sh (.box 0), a, b, c, d] ∧ s = [j] ∧ JarOk (n + 8 * m) j) (fun _ => True) 4 (intsUp 0 (4 : Int).toNat) 0 [.sh (.box 0), .no, .no, .no, .no] [j]
    ⟨_, _, _, _, j, rfl, rfl, hj⟩ (by rw [intsUp_len]; decide) (fun _ _ => trivial) (by
      rintro m d ρ s hm _ ⟨a, b, c, dd, j1, rfl, rfl, J⟩
      obtain ⟨v, j2, e1, bv, J1⟩ := e_number J (by omega)
      obtain ⟨u, j3, e2, bu, J2⟩ := e_number J1 (by omega)
      by_cases h0 : u = 0
      · subst h0
        have eb := e_bottom v [j3]
        refine ⟨[.sh (.box 0), .sh d, .sh (.int v), .sh (.int 0), dd], [j3], ?_, _, _, _, _, j3, rfl, rfl, J2.mono (by omega)⟩
        simp [b__law_made_right_1, ev, evs, svs, sv, boolOf, liftE, liftB, cmpD, eqD, D.plain, D.eqv, Ot.then, setTg, e1, e2, eb]
      · have el := e_low (a := v) [j3] h0 (bu.sm (by omega))
        have es := e_share (a := v) [j3] h0 (bu.sm (by omega))
        refine ⟨[.sh (.box 0), .sh d, .sh (.int v), .sh (.int u), .sh (shD (low v u))], [j3], ?_, _, _, _, _, j3, rfl, rfl, J2.mono (by omega)⟩
        simp [b__law_made_right_1, ev, evs, evb, svs, sv, boolOf, liftE, liftB, liftO, cmpD, eqD, D.plain, D.eqv, Ot.then, setTg, e1, e2, h0, el, es, same_sh, ps_share, ord_ba])
  obtain ⟨a, b, c, d, j1, rfl, rfl, J⟩ := hi
  rw [intsUp_len] at J
  have J' : JarOk (n + 32) j1 := J
  obtain ⟨v, j2, e1, bv, J1⟩ := e_number J' (by omega)
  have eb := e_bottom v [j2]
  have eb0 := e_bottom 0 [j2]
  refine ⟨j2, ?_, J1⟩
  simp only [g__law_made_right, defn, b__law_made_right, svs, sv, List.map_cons, List.map_nil, List.length_cons, List.length_nil]
  simp only [ev, evs, evb, boolOf, intOf, liftE, liftB, lift, R.bind_ok, Ot.then, r4, if_true, itemsOf, List.cons_append, List.nil_append, List.replicate, Nat.reduceSub, hl, List.getElem?_cons_zero, e1, eb, eb0]
theorem isi_int (i : Int) (s : List J) : g_is_integer [.int i] s = .ok (.bl true, false) s := e_is_integer (.int i) s false rfl rfl
theorem ne_sh (p : Int × Int) : biD "len" [shD p] = some (.int 2, false) := rfl
theorem isi_sh (p : Int × Int) : isiD (shD p) "tuple" = some true := rfl
/-- what is_share answers of a pair of ints -/
theorem e_is_share {n : Nat} {p : Int × Int} (hp : Lo n p) (s : List J) : g_is_share [shD p] s = .ok (.bl true, false) s := by
  have ha : biD "abs" [.int p.1] = some (.int (p.1.natAbs : Int), false) := by rw [bi_abs, abs_nat]
  have hb : p.2 = ((p.2.natAbs : Nat) : Int) := by have := hp.pos; omega
  have hc : g_common_divisor [.int (p.1.natAbs : Int), .int p.2] s = .ok (.int 1, false) s := by
    rw [hb, e_common s, hp.co]
    rfl
  have h2 : eqD (.int 2) (.int 2) = some true := by rfl
  have h1 : eqD (.int 1) (.int 1) = some true := by rfl
  have hpos := hp.pos
  simp [g_is_share, defn, b_is_share, ev, evs, evb, svs, sv, boolOf, intOf, liftE, liftB, liftO, lift, cmpD, h1, h2, Ot.then, isi_sh, ne_sh, items_sh, at0, at1, isi_int, ha, hc, hpos]
theorem e_chain {n : Nat} {j : List D} {p : Int × Int} (hp : Lo 40 p) (hj : JarOk n j) (hn : n ≤ 800) : ∃ j', g__law_chain_right [.box 0, shD p] [j] = .ok (.bl true, false) [j'] ∧ JarOk (n + 50) j' := by
  have r5 : rngOk 5 = true := by decide
  obtain ⟨ρ', s', hl, hi⟩ := loop_inv (x := "k") (i := 4) (body := fun ρ s => svs flds b__law_chain_right_1 ρ s) (fun m ρ s => ∃ t a b c j, ρ = [.sh (.box 0), .sh (shD p), .sh (shD t), .sh (shD t), a, b, c] ∧ s = [j] ∧ Lo (40 + 50 * m) t ∧ JarOk (n + 10 * m) j) (fun _ => True) 5 (intsUp 0 (5 : Int).toNat) 0
    [.sh (.box 0), .sh (shD p), .sh (shD p), .sh (shD p), .no, .no, .no] [j] ⟨p, _, _, _, j, rfl, rfl, hp, hj⟩ (by rw [intsUp_len]; decide) (fun _ _ => trivial) (by
      rintro m d ρ s hm _ ⟨t, a, b, c, j1, rfl, rfl, ht, J⟩
      obtain ⟨o, j2, e1, lo, J1⟩ := e_second hp J (by omega)
      obtain ⟨deed, j3, e2, d0, d1, J2⟩ := e_pick J1 (by omega) (many := 4) (by omega) (by omega)
      have T := ht.sh
      have O' : Lo (40 + 50 * m) o := lo.mono (by omega)
      have O := O'.sh
      have big : 40 + 50 * m ≤ 1000 := by omega
      have plus_lo : Lo (40 + 50 * (m + 1)) (plusS t o) := by
        have b1 : Bd (40 + 50 * m + 40) (t.1 * o.2) := T.t.mul lo.sh.b
        have b2 : Bd (40 + 50 * m + 40) (o.1 * t.2) := by rw [Int.mul_comm]; exact T.b.mul lo.sh.t
        have b3 : Bd (40 + 50 * m + 40) (t.2 * o.2) := T.b.mul lo.sh.b
        exact Lo.of_low ((b1.add b2).mono (by omega)) (b3.mono (by omega)) (Int.mul_ne_zero T.nz O.nz)
      have less_lo : Lo (40 + 50 * (m + 1)) (lessS o t) := by
        have b1 : Bd (40 + 50 * m + 40) (t.1 * o.2) := T.t.mul lo.sh.b
        have b2 : Bd (40 + 50 * m + 40) (o.1 * t.2) := by rw [Int.mul_comm]; exact T.b.mul lo.sh.t
        have b3 : Bd (40 + 50 * m + 40) (o.2 * t.2) := by rw [Int.mul_comm]; exact T.b.mul lo.sh.b
        exact Lo.of_low ((b2.sub b1).mono (by omega)) (b3.mono (by omega)) (Int.mul_ne_zero O.nz T.nz)
      have times_lo : Lo (40 + 50 * (m + 1)) (timesS t o) := Lo.of_low ((T.t.mul lo.sh.t).mono (by omega)) ((T.b.mul lo.sh.b).mono (by omega)) (Int.mul_ne_zero T.nz O.nz)
      have eqi : ∀ i k : Int, eqD (.int i) (.int k) = some (decide (i = k)) := fun i k => by
        simp [eqD, D.plain, D.eqv]
        rfl
      have k1 := mulOk_of T.t O.b (by omega)
      have k2 := mulOk_of T.t O.t (by omega)
      have k3 := mulOk_of T.b O.b (by omega)
      have k4 := mulOk_of T.b O.t (by omega)
      have J3 : JarOk (n + 10 * (m + 1)) j3 := J2.mono (by omega)
      have plus_case : ∃ ρ' s', svs flds b__law_chain_right_1 ([.sh (.box 0), .sh (shD p), .sh (shD t), .sh (shD t), a, b, c].set 4 (.sh d)) [j1] = .nx ρ' s' ∧ ∃ t a b c j, ρ' = [.sh (.box 0), .sh (shD p), .sh (shD t), .sh (shD t), a, b, c] ∧ s' = [j] ∧ Lo (40 + 50 * (m + 1)) t ∧ JarOk (n + 10 * (m + 1)) j := by
        have hd : (deed = 0 ∨ (deed = 3 ∧ o.1 = 0)) ∨ deed = 1 ∨ deed = 2 ∨ (deed = 3 ∧ o.1 ≠ 0) := by omega
        have f1 := e_plus T O big [j3]
        have f2 := e_sum T O big [j3]
        rcases hd with (rfl | ⟨rfl, h0⟩) | rfl | rfl | ⟨rfl, h0⟩
        · refine ⟨_, _, ?_, plusS t o, .sh d, .sh (shD o), .sh (.int 0), j3, rfl, rfl, plus_lo, J3⟩
          simp [b__law_chain_right_1, ev, evs, evb, svs, sv, boolOf, intOf, liftE, liftB, liftO, lift, cmpD, eqi, Ot.then, setTg, e1, e2, items_sh, at0, at1, f1, f2, same_sh]
        · refine ⟨_, _, ?_, plusS t o, .sh d, .sh (shD o), .sh (.int 0), j3, rfl, rfl, plus_lo, J3⟩
          simp [b__law_chain_right_1, ev, evs, evb, svs, sv, boolOf, intOf, liftE, liftB, liftO, lift, cmpD, eqi, Ot.then, setTg, e1, e2, items_sh, at0, at1, f1, f2, same_sh, h0]
        · have f3 := e_less O T big [j3]
          have T2 : Sh (40 + 50 * m) (-t.1, t.2) := ⟨T.t.neg, T.b, T.nz⟩
          have f4 := e_sum O T2 big [j3]
          have e5 : plusS o (-t.1, t.2) = lessS o t := by
            unfold plusS lessS
            simp only [Int.neg_mul, Int.sub_eq_add_neg]
          rw [e5] at f4
          have f4' : g__law_sum [shD o, .tup [.int (-t.1), .int t.2]] [j3] = .ok (shD (lessS o t), false) [j3] := f4
          refine ⟨_, _, ?_, lessS o t, .sh d, .sh (shD o), .sh (.int 1), j3, rfl, rfl, less_lo, J3⟩
          simp [b__law_chain_right_1, ev, evs, evb, svs, sv, boolOf, intOf, liftE, liftB, liftO, lift, cmpD, eqi, Ot.then, setTg, e1, e2, items_sh, at0, at1, f3, f4', same_sh]
        · have f3 := e_times T O big [j3]
          have f4 : g__law_low [.int (t.1 * o.1), .int (t.2 * o.2)] [j3] = .ok (shD (timesS t o), false) [j3] := e_low [j3] (Int.mul_ne_zero T.nz O.nz) ((T.b.mul O.b).sm (by omega))
          refine ⟨_, _, ?_, timesS t o, .sh d, .sh (shD o), .sh (.int 2), j3, rfl, rfl, times_lo, J3⟩
          simp [b__law_chain_right_1, ev, evs, evb, svs, sv, boolOf, intOf, liftE, liftB, liftO, lift, cmpD, binD, eqi, Ot.then, setTg, e1, e2, items_sh, at0, at1, k2, k3, f3, f4, same_sh]
        · have f3 := e_over T O big [j3] h0
          have f4 : g__law_low [.int (t.1 * o.2), .int (t.2 * o.1)] [j3] = .ok (shD (overS t o), false) [j3] := e_low [j3] (Int.mul_ne_zero T.nz h0) ((T.b.mul O.t).sm (by omega))
          have over_lo : Lo (40 + 50 * (m + 1)) (overS t o) := Lo.of_low ((T.t.mul lo.sh.b).mono (by omega)) ((T.b.mul lo.sh.t).mono (by omega)) (Int.mul_ne_zero T.nz h0)
          refine ⟨_, _, ?_, overS t o, .sh d, .sh (shD o), .sh (.int 3), j3, rfl, rfl, over_lo, J3⟩
          simp [b__law_chain_right_1, ev, evs, evb, svs, sv, boolOf, intOf, liftE, liftB, liftO, lift, cmpD, binD, eqi, Ot.then, setTg, e1, e2, items_sh, at0, at1, k1, k4, f3, f4, same_sh, h0]
      exact plus_case)
  obtain ⟨t, a, b, c, j1, rfl, rfl, ht, J⟩ := hi
  rw [intsUp_len] at J ht
  have T : Lo 290 t := ht
  have P : Lo 290 p := hp.mono (by omega)
  have f1 := e_below T.sh P.sh (by omega) [j1]
  have f2 := e_up T.sh (by omega) [j1]
  have f3 := e_lup T.sh (by omega) [j1]
  have f4 := e_is_share T [j1]
  have k1 := mulOk_of T.sh.t P.sh.b (by omega)
  have k2 := mulOk_of P.sh.t T.sh.b (by omega)
  refine ⟨j1, ?_, J⟩
  simp only [g__law_chain_right, defn, b__law_chain_right, svs, sv, List.map_cons, List.map_nil, List.length_cons, List.length_nil]
  simp only [ev, evs, evb, boolOf, intOf, liftE, liftB, liftO, lift, R.bind_ok, Ot.then, setTg, r5, if_true, it_lst, List.cons_append, List.nil_append, List.replicate, Nat.reduceSub, List.getElem?_cons_zero, List.getElem?_cons_succ, List.set_cons_succ, List.set_cons_zero, hl]
  simp [ev, evs, evb, boolOf, intOf, liftE, liftB, liftO, lift, cmpD, binD, items_sh, at0, at1, k1, k2, f1, f2, f3, f4, same_bl, same_int]
end K00

set_option Elab.async false
set_option linter.all false
set_option maxRecDepth 100000
set_option maxHeartbeats 8000000
namespace K00
open PySem PySem.Spec PyProof.Rows L2 DL
theorem loop_ret {i : Nat} {x : Str} {body : DL.Env → List J → Ot J} {d : D} {ds : List D} {ρ : DL.Env} {s s2 : List J} {r : D × Bool} (h : body (ρ.set i (.sh d)) s = .ret r s2) : loopRun (.nm i x) body (d :: ds) ρ s = .ret r s2 := by
  simp [loopRun, setTg, h]
def NotI (d : D) : Prop := ∃ bI bB, isiD d "int" = some bI ∧ isiD d "bool" = some bB ∧ (bI && !bB) = false
def PI (d : D) : Prop := (∃ i, d = .int i ∧ Bd 45 i) ∨ NotI d
def Good (v : D) : Prop := isiD v "tuple" = some false ∨ (∃ xs, v = .tup xs ∧ xs.length ≠ 2) ∨ ∃ x y, v = .tup [x, y] ∧ PI x ∧ PI y
theorem notI {d : D} (h : NotI d) (s : List J) : g_is_integer [d] s = .ok (.bl false, false) s := by
  obtain ⟨bI, bB, h1, h2, h3⟩ := h
  cases bI with
  | false => simp [g_is_integer, defn, b_is_integer, svs, sv, ev, evs, evb, boolOf, liftE, liftB, lift, Ot.then, h1, h2]
  | true =>
    cases bB with
    | false => cases h3
    | true => simp [g_is_integer, defn, b_is_integer, svs, sv, ev, evs, evb, boolOf, liftE, liftB, lift, Ot.then, h1, h2]
theorem part_no {d : D} (h : NotI d) (v : D) (u : DL.Slot) (s : List J) : svs flds b__law_is_share_1 ([.sh v, u].set 1 (.sh d)) s = .ret (.bl false, false) s := by
  obtain ⟨bI, bB, h1, h2, h3⟩ := h
  cases bI with
  | false => simp [b__law_is_share_1, svs, sv, ev, evs, evb, boolOf, liftE, liftB, lift, Ot.then, h1, h2]
  | true =>
    cases bB with
    | false => cases h3
    | true => simp [b__law_is_share_1, svs, sv, ev, evs, evb, boolOf, liftE, liftB, lift, Ot.then, h1, h2]
theorem part_yes (i : Int) (v : D) (u : DL.Slot) (s : List J) : svs flds b__law_is_share_1 ([.sh v, u].set 1 (.sh (.int i))) s = .nx [.sh v, .sh (.int i)] s := by
  simp [b__law_is_share_1, svs, sv, ev, evs, evb, boolOf, liftE, liftB, lift, Ot.then, isi_intI, isi_intB]
theorem eqi (i k : Int) : eqD (.int i) (.int k) = some (decide (i = k)) := by
  simp [eqD, D.plain, D.eqv]
  rfl
theorem it_tup (xs : List D) : itemsOf (.tup xs) = some xs := rfl
theorem e_good {v : D} (h : Good v) (s : List J) : ∃ b, g_is_share [v] s = .ok (.bl b, false) s ∧ g__law_is_share [v] s = .ok (.bl b, false) s := by
  rcases h with h | ⟨xs, rfl, h⟩ | ⟨x, y, rfl, hx, hy⟩
  · refine ⟨false, ?_, ?_⟩
    · simp [g_is_share, defn, b_is_share, ev, evs, evb, svs, sv, boolOf, liftE, liftB, Ot.then, h]
    · simp [g__law_is_share, defn, b__law_is_share, ev, evs, evb, svs, sv, boolOf, liftE, liftB, Ot.then, h]
  · have h2 : ¬ ((xs.length : Int) = 2) := by omega
    refine ⟨false, ?_, ?_⟩
    · simp [g_is_share, defn, b_is_share, ev, evs, evb, svs, sv, boolOf, liftE, liftB, lift, cmpD, Ot.then, isi_tupT, bi_lenT, eqi, h2]
    · simp [g__law_is_share, defn, b__law_is_share, ev, evs, evb, svs, sv, boolOf, liftE, liftB, lift, cmpD, Ot.then, isi_tupT, bi_lenT, eqi, h2]
  · have hl : biD "len" [.tup [x, y]] = some (.int 2, false) := rfl
    have pre : ∀ r, (loopRun (.nm 1 "part") (fun ρ s => svs flds b__law_is_share_1 ρ s) [x, y] [.sh (.tup [x, y]), .no] s = .ret (r, false) s) → g__law_is_share [.tup [x, y]] s = .ok (r, false) s := fun r hr => by
      simp only [g__law_is_share, defn, b__law_is_share, svs, sv, List.map_cons, List.map_nil, List.length_cons, List.length_nil]
      simp only [ev, evs, evb, boolOf, intOf, liftE, liftB, liftO, lift, R.bind_ok, Ot.then, cmpD, isi_tupT, hl, eqi, it_tup, List.cons_append, List.nil_append, List.replicate, Nat.reduceSub, List.getElem?_cons_zero, List.getElem?_cons_succ, Bool.not_true, Bool.not_false, decide_true, Option.map_some, if_false, if_true, Bool.false_eq_true, hr]
    have fx : NotI x → ∃ b, g_is_share [.tup [x, y]] s = .ok (.bl b, false) s ∧ g__law_is_share [.tup [x, y]] s = .ok (.bl b, false) s := fun n => by
      have n1 := notI n s
      refine ⟨false, ?_, pre _ (loop_ret (part_no n _ _ s))⟩
      simp [g_is_share, defn, b_is_share, ev, evs, evb, svs, sv, boolOf, intOf, liftE, liftB, liftO, lift, cmpD, Ot.then, isi_tupT, hl, eqi, it_tup, at0, at1, n1]
    rcases hx with ⟨i, rfl, bi⟩ | n
    · rcases hy with ⟨k, rfl, bk⟩ | n
      · -- two ints
        have l2 : loopRun (.nm 1 "part") (fun ρ s => svs flds b__law_is_share_1 ρ s) [.int i, .int k] [.sh (.tup [.int i, .int k]), .no] s = .nx [.sh (.tup [.int i, .int k]), .sh (.int k)] s := by
          rw [loop_step (part_yes i _ _ s), loop_step (part_yes k _ _ s)]
          rfl
        by_cases hk : 0 < k
        · have ha : biD "abs" [.int i] = some (.int (i.natAbs : Int), false) := by rw [bi_abs, abs_nat]
          have hb : k = ((k.natAbs : Nat) : Int) := by omega
          have hc : g_common_divisor [.int (i.natAbs : Int), .int k] s = .ok (.int (gI i k), false) s := by
            have := e_common (a := i.natAbs) (b := k.natAbs) s
            rw [← hb] at this
            exact this
          have el := e_low (a := i) s (show k ≠ 0 by omega) (bk.sm (by omega))
          have iff : ((low i k).2 = k) ↔ gI i k = 1 := by
            have hg := gI_pos (a := i) (b := k) (by omega)
            unfold low
            rw [if_neg (by omega)]
            show k.fdiv (gI i k) = k ↔ gI i k = 1
            constructor
            · intro e
              have d : gI i k ∣ k := by
                unfold gI
                have := Nat.gcd_dvd_right i.natAbs k.natAbs
                rw [hb]
                simp only [Int.natAbs_natCast]
                exact Int.natCast_dvd_natCast.mpr this
              obtain ⟨z, hz⟩ := d
              generalize gI i k = gg at hz e hg ⊢
              have hz0 : z ≠ 0 := fun q => by rw [q, Int.mul_zero] at hz; omega
              have e4 : k.fdiv gg = z := by rw [hz, Int.mul_fdiv_cancel_left _ (by omega)]
              have : gg * z = 1 * z := by rw [Int.one_mul, ← hz, ← e4]; exact e.symm
              exact Int.eq_of_mul_eq_mul_right hz0 this
            · intro e
              rw [e, Int.fdiv_one]
          refine ⟨decide (gI i k = 1), ?_, ?_⟩
          · simp [g_is_share, defn, b_is_share, ev, evs, evb, svs, sv, boolOf, intOf, liftE, liftB, liftO, lift, cmpD, Ot.then, isi_tupT, hl, eqi, it_tup, at0, at1, isi_int, hk, ha, hc]
          · have e3 : decide ((low i k).2 = k) = decide (gI i k = 1) := decide_eq_decide.mpr iff
            simp only [g__law_is_share, defn, b__law_is_share, svs, sv, List.map_cons, List.map_nil, List.length_cons, List.length_nil]
            simp only [ev, evs, evb, boolOf, intOf, liftE, liftB, liftO, lift, R.bind_ok, Ot.then, cmpD, isi_tupT, hl, eqi, it_tup, List.cons_append, List.nil_append, List.replicate, Nat.reduceSub, List.getElem?_cons_zero, List.getElem?_cons_succ, Bool.not_true, Bool.not_false, decide_true, Option.map_some, if_false, if_true, Bool.false_eq_true, l2, at0, at1, Option.bind_some, hk, el, items_sh, e3]
        · refine ⟨false, ?_, ?_⟩
          · simp [g_is_share, defn, b_is_share, ev, evs, evb, svs, sv, boolOf, intOf, liftE, liftB, liftO, lift, cmpD, Ot.then, isi_tupT, hl, eqi, it_tup, at0, at1, isi_int, hk]
          · simp only [g__law_is_share, defn, b__law_is_share, svs, sv, List.map_cons, List.map_nil, List.length_cons, List.length_nil]
            simp only [ev, evs, evb, boolOf, intOf, liftE, liftB, liftO, lift, R.bind_ok, Ot.then, cmpD, isi_tupT, hl, eqi, it_tup, List.cons_append, List.nil_append, List.replicate, Nat.reduceSub, List.getElem?_cons_zero, List.getElem?_cons_succ, Bool.not_true, Bool.not_false, decide_true, decide_false, Option.map_some, if_false, if_true, Bool.false_eq_true, l2, at0, at1, Option.bind_some, hk]
      · have n1 := notI n s
        refine ⟨false, ?_, pre _ ?_⟩
        · simp [g_is_share, defn, b_is_share, ev, evs, evb, svs, sv, boolOf, intOf, liftE, liftB, liftO, lift, cmpD, Ot.then, isi_tupT, hl, eqi, it_tup, at0, at1, isi_int, n1]
        · rw [loop_step (part_yes i _ _ s)]
          exact loop_ret (part_no n _ _ s)
    · exact fx n
end K00

set_option Elab.async false
set_option linter.all false
set_option maxRecDepth 100000
set_option maxHeartbeats 8000000
namespace K00
open PySem PySem.Spec PyProof.Rows L2 DL
theorem pi_i {i : Int} (h : Bd 45 i) : PI (.int i) := .inl ⟨i, rfl, h⟩
theorem pi_n {d : D} {a b : Bool} (h1 : isiD d "int" = some a) (h2 : isiD d "bool" = some b) (h3 : (a && !b) = false) : PI d := .inr ⟨a, b, h1, h2, h3⟩
theorem good_pair {x y : D} (h : PI x) (k : PI y) : Good (.tup [x, y]) := .inr (.inr ⟨x, y, rfl, h, k⟩)
theorem good_len {xs : List D} (h : xs.length ≠ 2) : Good (.tup xs) := .inr (.inl ⟨xs, rfl, h⟩)
def rulesD : D := .ins "Rules" [.int 1, .tup [.tup [.int 0], .tup [.int 1]]]
def vals (a b : Int) : List D :=
  [.tup [.int a, .int b], .tup [.int (a * 6), .int (b * 6)], .tup [.int a, .int (-b)], .tup [.int (-a), .int (-b)], .tup [.int a, .int 0], .tup [.int b, .int a], .lst [.int a, .int b], .tup [.int a, .int b, .int 1], .tup [.int a], .tup [], .tup [.tup [.int a, .int b], .tup [.int a, .int b]]] ++
  [.tup [.int 1, .int 1], .tup [.bl true, .int 1], .tup [.int 1, .bl true], .tup [.int 1, .int 1], .tup [.int 0, .int 1], .tup [.bl false, .int 1], .tup [.int 0, .bl true], .tup [.int 0, .int 1], .tup [.int 0, .int 2], .tup [.int 0, .int (-1)], .tup [.int 0, .int 0]] ++
  [.tup [.int (-3), .int 2], .tup [.int 3, .int (-2)], .tup [.int (-4), .int 6], .tup [.non, .int 1], .tup [.int 1, .non], .tup [.str "1", .str "2"], .tup [.int 1, .lst [.int 2]], .tup [.tup [.int 1], .int 2], .str "1/2", .str "", .int 1, .int 0] ++
  [.bl true, .bl false, .non, .lst [], .lst [.tup [.int a, .int b]], rulesD, .tup [rulesD, .int 1], .tup [.int 1, rulesD], .tup [.int 1, .int 1]]
theorem vals_good {a b : Int} (ha : Bd 40 a) (hb : Bd 40 b) : ∀ v ∈ vals a b, Good v := by
  have a1 : PI (.int a) := pi_i (ha.mono (by omega))
  have b1 : PI (.int b) := pi_i (hb.mono (by omega))
  have a2 : PI (.int (-a)) := pi_i (ha.neg.mono (by omega))
  have b2 : PI (.int (-b)) := pi_i (hb.neg.mono (by omega))
  have a6 : PI (.int (a * 6)) := pi_i ((ha.mul (m := 3) (j := 6) (show Bd 3 6 by unfold Bd; decide)).mono (by omega))
  have b6 : PI (.int (b * 6)) := pi_i ((hb.mul (m := 3) (j := 6) (show Bd 3 6 by unfold Bd; decide)).mono (by omega))
  have lit : ∀ i : Int, i.natAbs < 10 → PI (.int i) := fun i h => pi_i (by unfold Bd; omega)
  have nt : ∀ x : Bool, PI (.bl x) := fun x => pi_n (a := true) (b := true) rfl rfl rfl
  have nn : PI .non := pi_n (a := false) (b := false) rfl rfl rfl
  have ns : ∀ x : Str, PI (.str x) := fun x => pi_n (a := false) (b := false) rfl rfl rfl
  have nl : ∀ x, PI (.lst x) := fun x => pi_n (a := false) (b := false) rfl rfl rfl
  have nu : ∀ x, PI (.tup x) := fun x => pi_n (a := false) (b := false) rfl rfl rfl
  have nr : PI rulesD := pi_n (a := false) (b := false) rfl rfl rfl
  intro v hv
  unfold vals at hv
  simp only [List.cons_append, List.nil_append, List.mem_cons, List.not_mem_nil, or_false] at hv
  rcases hv with rfl | rfl | rfl | rfl | rfl | rfl | rfl | rfl | rfl | rfl | rfl | rfl | rfl | rfl | rfl | rfl | rfl | rfl | rfl | rfl | rfl | rfl | rfl | rfl | rfl | rfl | rfl | rfl | rfl | rfl | rfl | rfl | rfl | rfl | rfl | rfl | rfl | rfl | rfl | rfl | rfl | rfl | rfl <;>
    first
      | exact .inl rfl
      | (refine good_pair ?_ ?_ <;> first | assumption | exact nt _ | exact ns _ | exact nl _ | exact nu _ | exact lit _ (by decide))
      | exact good_len (by simp)
theorem ord_v (x : D) : ordK ["value"] ["value"] [] [x] = some [x] := by rfl
theorem ps_is_share : sg_is_share.ps = (["value"] : List Str) := rfl
theorem e_values {p : Int × Int} (hp : Lo 40 p) (s : List J) : g__law_values_right [shD p] s = .ok (.bl true, false) s := by
  have P := hp.sh
  have k6 : Bd 3 (6 : Int) := by unfold Bd; decide
  have m1 := mulOk_of P.t k6 (by omega)
  have m2 := mulOk_of P.b k6 (by omega)
  have er : g_Rules [.int 1, .lst [.tup [.int 0], .tup [.int 1]]] s = .ok (rulesD, false) s := rfl
  obtain ⟨ρ', s', hl, a, ha, hs⟩ := loop_inv (x := "value") (i := 5) (body := fun ρ s => svs flds b__law_values_right_1 ρ s) (fun m ρ s' => ∃ x, ρ = [.sh (shD p), .sh rulesD, .sh (.int p.1), .sh (.int p.2), .sh (.lst (vals p.1 p.2)), x] ∧ s' = s) Good (vals p.1 p.2).length (vals p.1 p.2) 0
    [.sh (shD p), .sh rulesD, .sh (.int p.1), .sh (.int p.2), .sh (.lst (vals p.1 p.2)), .no] s ⟨_, rfl, rfl⟩ (by omega) (vals_good P.t P.b) (by
      rintro m d ρ s1 hm hd ⟨x, rfl, rfl⟩
      obtain ⟨b, e1, e2⟩ := e_good hd s1
      refine ⟨_, s1, ?_, .sh d, rfl, rfl⟩
      simp [b__law_values_right_1, ev, evs, svs, sv, boolOf, liftE, Ot.then, e1, e2, same_bl])
  subst ha hs
  have es := e_is_share hp s'
  have hv : D.lst (vals p.1 p.2) = D.lst ([.tup [.int p.1, .int p.2], .tup [.int (p.1 * 6), .int (p.2 * 6)], .tup [.int p.1, .int (-p.2)], .tup [.int (-p.1), .int (-p.2)], .tup [.int p.1, .int 0], .tup [.int p.2, .int p.1], .lst [.int p.1, .int p.2], .tup [.int p.1, .int p.2, .int 1], .tup [.int p.1], .tup [], .tup [.tup [.int p.1, .int p.2], .tup [.int p.1, .int p.2]]] ++
  [.tup [.int 1, .int 1], .tup [.bl true, .int 1], .tup [.int 1, .bl true], .tup [.int 1, .int 1], .tup [.int 0, .int 1], .tup [.bl false, .int 1], .tup [.int 0, .bl true], .tup [.int 0, .int 1], .tup [.int 0, .int 2], .tup [.int 0, .int (-1)], .tup [.int 0, .int 0]] ++
  [.tup [.int (-3), .int 2], .tup [.int 3, .int (-2)], .tup [.int (-4), .int 6], .tup [.non, .int 1], .tup [.int 1, .non], .tup [.str "1", .str "2"], .tup [.int 1, .lst [.int 2]], .tup [.tup [.int 1], .int 2], .str "1/2", .str "", .int 1, .int 0] ++
  [.bl true, .bl false, .non, .lst [], .lst [.tup [.int p.1, .int p.2]], rulesD, .tup [rulesD, .int 1], .tup [.int 1, rulesD], .tup [.int 1, .int 1]]) := rfl
  simp only [g__law_values_right, defn, b__law_values_right, svs, sv, List.map_cons, List.map_nil, List.length_cons, List.length_nil]
  simp only [ev, evs, evb, boolOf, intOf, liftE, liftB, liftO, lift, R.bind_ok, Ot.then, setTg, er, items_sh, at0, at1, Option.bind_some, Option.map_some, binD, m1, m2, if_true, List.cons_append, List.nil_append, List.replicate, Nat.reduceSub, List.getElem?_cons_zero, List.getElem?_cons_succ, List.set_cons_succ, List.set_cons_zero, List.length_cons, List.length_nil, Nat.reduceAdd, Nat.reduceLeDiff, it_lst]
  rw [show shD p = D.tup [.int p.1, .int p.2] from rfl] at hl ⊢
  simp only [vals, List.cons_append, List.nil_append] at hl
  simp only [hl]
  have es' : g_is_share [.tup [.int p.1, .int p.2]] s' = .ok (.bl true, false) s' := es
  simp only [List.getElem?_cons_zero, R.bind_ok, ps_is_share, ord_v, es', same_bl]
end K00

set_option Elab.async false
set_option linter.all false
set_option maxRecDepth 100000
set_option maxHeartbeats 8000000
namespace K00
open PySem PySem.Spec PyProof.Rows L2 DL
/-! ### sums do not hang on the order -/
/-- the same fraction -/
def Fr (p q : Int × Int) : Prop := p.1 * q.2 = q.1 * p.2
theorem Fr.symm {p q : Int × Int} (h : Fr p q) : Fr q p := Eq.symm h
theorem Fr.trans {p q r : Int × Int} (hq : q.2 ≠ 0) (h : Fr p q) (k : Fr q r) : Fr p r := by
  unfold Fr at *
  have e : (p.1 * r.2) * q.2 = (r.1 * p.2) * q.2 := by
    calc (p.1 * r.2) * q.2 = (p.1 * q.2) * r.2 := by ac_rfl
      _ = (q.1 * p.2) * r.2 := by rw [h]
      _ = (q.1 * r.2) * p.2 := by ac_rfl
      _ = (r.1 * q.2) * p.2 := by rw [k]
      _ = (r.1 * p.2) * q.2 := by ac_rfl
  exact Int.eq_of_mul_eq_mul_right hq e
theorem low_fr {a b : Int} (hb : b ≠ 0) : Fr (low a b) (a, b) := by
  unfold Fr low
  have gp := gI_pos (a := a) hb
  have d1 : gI a b ∣ a := by
    unfold gI
    exact Int.ofNat_dvd_left.mpr (Nat.gcd_dvd_left _ _)
  have d2 : gI a b ∣ b := by
    unfold gI
    exact Int.ofNat_dvd_left.mpr (Nat.gcd_dvd_right _ _)
  obtain ⟨x, hx⟩ := d1
  obtain ⟨y, hy⟩ := d2
  generalize gI a b = g at hx hy gp ⊢
  have g0 : g ≠ 0 := by omega
  have e1 : a.fdiv g = x := by rw [hx, Int.mul_fdiv_cancel_left _ g0]
  have e2 : b.fdiv g = y := by rw [hy, Int.mul_fdiv_cancel_left _ g0]
  have e3 : (-a).fdiv g = -x := by rw [hx, ← Int.mul_neg, Int.mul_fdiv_cancel_left _ g0]
  have e4 : (-b).fdiv g = -y := by rw [hy, ← Int.mul_neg, Int.mul_fdiv_cancel_left _ g0]
  split
  · simp only [e3, e4]
    rw [hx, hy, Int.neg_mul, Int.mul_neg]
    congr 1
    ac_rfl
  · simp only [e1, e2]
    rw [hx, hy]
    ac_rfl
theorem lo_unique {n m : Nat} {p q : Int × Int} (hp : Lo n p) (hq : Lo m q) (h : Fr p q) : p = q := by
  unfold Fr at h
  have hn : p.1.natAbs * q.2.natAbs = q.1.natAbs * p.2.natAbs := by rw [← Int.natAbs_mul, h, Int.natAbs_mul]
  have d1 : p.2.natAbs ∣ q.2.natAbs := by
    have : p.2.natAbs ∣ p.1.natAbs * q.2.natAbs := ⟨q.1.natAbs, by rw [hn, Nat.mul_comm]⟩
    exact Nat.Coprime.dvd_of_dvd_mul_left (by show Nat.gcd _ _ = 1; rw [Nat.gcd_comm]; exact hp.co) this
  have d2 : q.2.natAbs ∣ p.2.natAbs := by
    have : q.2.natAbs ∣ q.1.natAbs * p.2.natAbs := ⟨p.1.natAbs, by rw [← hn, Nat.mul_comm]⟩
    exact Nat.Coprime.dvd_of_dvd_mul_left (by show Nat.gcd _ _ = 1; rw [Nat.gcd_comm]; exact hq.co) this
  have e := Nat.dvd_antisymm d1 d2
  have e2 : p.2 = q.2 := by have := hp.pos; have := hq.pos; omega
  have e1 : p.1 = q.1 := by
    rw [e2] at h
    exact Int.eq_of_mul_eq_mul_right hq.sh.nz h
  exact Prod.ext e1 e2
def addF (p q : Int × Int) : Int × Int := (p.1 * q.2 + q.1 * p.2, p.2 * q.2)
theorem addF_congr {p p' q q' : Int × Int} (h : Fr p p') (k : Fr q q') : Fr (addF p q) (addF p' q') := by
  unfold Fr addF at *
  simp only
  calc (p.1 * q.2 + q.1 * p.2) * (p'.2 * q'.2) = (p.1 * p'.2) * (q.2 * q'.2) + (q.1 * q'.2) * (p.2 * p'.2) := by rw [Int.add_mul]; congr 1 <;> ac_rfl
    _ = (p'.1 * p.2) * (q.2 * q'.2) + (q'.1 * q.2) * (p.2 * p'.2) := by rw [h, k]
    _ = (p'.1 * q'.2 + q'.1 * p'.2) * (p.2 * q.2) := by rw [Int.add_mul]; congr 1 <;> ac_rfl
theorem plus_fr {p q : Int × Int} (hp : p.2 ≠ 0) (hq : q.2 ≠ 0) : Fr (plusS p q) (addF p q) := low_fr (Int.mul_ne_zero hp hq)
/-- the sum of all, as a fraction -/
def sumF : List (Int × Int) → Int × Int
  | [] => (0, 1)
  | p :: r => addF p (sumF r)
theorem sumF_nz : ∀ {l : List (Int × Int)}, (∀ p ∈ l, p.2 ≠ 0) → (sumF l).2 ≠ 0
  | [], _ => by decide
  | p :: r, h => Int.mul_ne_zero (h p List.mem_cons_self) (sumF_nz fun q hq => h q (List.mem_cons_of_mem _ hq))
theorem addF_assoc (p q r : Int × Int) : addF (addF p q) r = addF p (addF q r) := by
  unfold addF
  simp only [Prod.mk.injEq]
  refine ⟨?_, by ac_rfl⟩
  rw [Int.add_mul, Int.add_mul, Int.add_assoc]
  congr 1
  · ac_rfl
  · congr 1 <;> ac_rfl
theorem addF_comm (p q : Int × Int) : addF p q = addF q p := by
  unfold addF
  rw [Int.add_comm, Int.mul_comm p.2]
theorem addF_zero (p : Int × Int) : addF (0, 1) p = p := by
  unfold addF
  simp
theorem sumF_append : ∀ (l m : List (Int × Int)), sumF (l ++ m) = addF (sumF l) (sumF m)
  | [], m => by rw [List.nil_append]; exact (addF_zero _).symm
  | p :: l, m => by
    show addF p (sumF (l ++ m)) = addF (addF p (sumF l)) (sumF m)
    rw [sumF_append l m, addF_assoc]
theorem sumF_rev (l : List (Int × Int)) : sumF l.reverse = sumF l := by
  induction l with
  | nil => rfl
  | cons p r ih =>
    rw [List.reverse_cons, sumF_append, ih]
    show addF (sumF r) (addF p (0, 1)) = addF p (sumF r)
    rw [addF_comm p (0, 1), addF_zero, addF_comm]
/-- the sum from the left, in lowest terms -/
def tot (l : List (Int × Int)) (t : Int × Int) : Int × Int := l.foldl plusS t
theorem tot_ok : ∀ (l : List (Int × Int)) (n : Nat) (t : Int × Int), Lo n t → (∀ p ∈ l, Lo 40 p) → Lo (n + 50 * l.length) (tot l t) ∧ Fr (tot l t) (addF t (sumF l))
  | [], n, t, ht, _ => ⟨ht, by
    show Fr t (addF t (0, 1))
    rw [addF_comm, addF_zero]
    exact rfl⟩
  | p :: r, n, t, ht, hl => by
    have hp := hl p List.mem_cons_self
    have step : Lo (n + 50) (plusS t p) := by
      have b1 : Bd (n + 40) (t.1 * p.2) := ht.sh.t.mul hp.sh.b
      have b2 : Bd (n + 40) (p.1 * t.2) := by rw [Int.mul_comm]; exact ht.sh.b.mul hp.sh.t
      have b3 : Bd (n + 40) (t.2 * p.2) := ht.sh.b.mul hp.sh.b
      exact Lo.of_low ((b1.add b2).mono (by omega)) (b3.mono (by omega)) (Int.mul_ne_zero ht.sh.nz hp.sh.nz)
    obtain ⟨h1, h2⟩ := tot_ok r (n + 50) (plusS t p) step fun q hq => hl q (List.mem_cons_of_mem _ hq)
    refine ⟨?_, ?_⟩
    · show Lo (n + 50 * (r.length + 1)) _
      rw [show n + 50 * (r.length + 1) = n + 50 + 50 * r.length by omega]
      exact h1
    · show Fr (tot r (plusS t p)) (addF t (addF p (sumF r)))
      rw [← addF_assoc]
      have nz := sumF_nz (l := r) fun q hq => (hl q (List.mem_cons_of_mem _ hq)).sh.nz
      have nz2 : (addF (plusS t p) (sumF r)).2 ≠ 0 := Int.mul_ne_zero step.sh.nz nz
      exact Fr.trans nz2 h2 (addF_congr (plus_fr ht.sh.nz hp.sh.nz) rfl)
theorem lo01 : Lo 40 (0, 1) := ⟨⟨by unfold Bd; decide, by unfold Bd; decide, by decide⟩, by decide, by decide⟩
theorem tot_rev {l : List (Int × Int)} (h : ∀ p ∈ l, Lo 40 p) : tot l.reverse (0, 1) = tot l (0, 1) := by
  obtain ⟨a1, a2⟩ := tot_ok l 40 (0, 1) lo01 h
  obtain ⟨b1, b2⟩ := tot_ok l.reverse 40 (0, 1) lo01 fun p hp => h p (List.mem_reverse.mp hp)
  rw [sumF_rev] at b2
  have nz := sumF_nz (l := l) fun q hq => (h q hq).sh.nz
  have nz2 : (addF (0, 1) (sumF l)).2 ≠ 0 := Int.mul_ne_zero (by decide) nz
  exact lo_unique b1 a1 (Fr.trans nz2 b2 a2.symm)
/-! ### total_of -/
theorem loop_tot {i : Nat} {x : Str} {body : DL.Env → List J → Ot J} {a : DL.Slot} {b : DL.Slot} {f : D → DL.Slot → D → DL.Env} (s : List J)
    (mk : D → DL.Slot → DL.Env) (hset : ∀ t u d, (mk t u).set i (.sh d) = mk t (.sh d)) (hb : ∀ (t p : Int × Int) (n : Nat), n ≤ 500 → Lo n t → Lo 40 p → body (mk (shD t) (.sh (shD p))) s = .nx (mk (shD (plusS t p)) (.sh (shD p))) s) :
    ∀ (l : List (Int × Int)) (n : Nat) (t : Int × Int) (u : DL.Slot), Lo n t → (∀ p ∈ l, Lo 40 p) → n + 50 * l.length ≤ 500 → ∃ u', loopRun (.nm i x) body (l.map shD) (mk (shD t) u) s = .nx (mk (shD (tot l t)) u') s
  | [], n, t, u, _, _, _ => ⟨u, rfl⟩
  | p :: r, n, t, u, ht, hl, hn => by
    have hp := hl p List.mem_cons_self
    have st := hb t p n (by omega) ht hp
    have lo := (tot_ok [p] n t ht (fun q hq => by rw [List.mem_singleton] at hq; subst hq; exact hp)).1
    obtain ⟨u', e⟩ := loop_tot (x := x) (f := f) (a := a) (b := b) s mk hset hb r (n + 50) (plusS t p) (.sh (shD p)) lo (fun q hq => hl q (List.mem_cons_of_mem _ hq)) (by simp at hn; omega)
    refine ⟨u', ?_⟩
    rw [List.map_cons, loop_step (ρ2 := mk (shD (plusS t p)) (.sh (shD p))) (s2 := s) (by rw [hset]; exact st)]
    exact e
end K00

set_option Elab.async false
set_option linter.all false
set_option maxRecDepth 100000
set_option maxHeartbeats 8000000
namespace K00
open PySem PySem.Spec PyProof.Rows L2 DL
theorem text_le : ∀ (ts : List Str) (k : Nat) (acc : Str), (textFrom k acc ts).length ≤ acc.length + piled ts
  | [], k, acc => by
    show acc.length ≤ acc.length + piled []
    omega
  | t :: r, k, acc => by
    have ih := text_le r (k + 1) (acc ++ (if k > 0 then ", " else "" : String) ++ t)
    have e : (acc ++ (if k > 0 then ", " else "" : String) ++ t).length ≤ acc.length + 2 + t.length := by
      rw [strLen_append, strLen_append]
      split
      · exact Nat.le_of_eq rfl
      · exact Nat.add_le_add_right (Nat.le_add_right _ 2) _
    show (textFrom (k + 1) _ r).length ≤ _
    rw [piled_cons]
    omega
theorem int_len {i : Int} (h : Bd 40 i) : (PyData.shown (.int i)).length ≤ 42 := by
  have hl : i.natAbs.log2 < 41 := by have := log2_of h; omega
  have := int_text_length_le (k := 41) (by decide) hl
  show (Str.ofString (toString i)).length ≤ 42
  rw [PySem.ofString_length]
  exact this
theorem sh_len {p : Int × Int} (h : Lo 40 p) : (toPy (shD p)).shown.length ≤ 90 := by
  have h1 := int_len h.sh.t
  have h2 := int_len h.sh.b
  have e := join_length_add [PyData.shown (.int p.1), PyData.shown (.int p.2)] (by simp)
  rw [piled_cons, piled_cons, piled_nil] at e
  show (tupleText [PyData.shown (.int p.1), PyData.shown (.int p.2)]).length ≤ 90
  unfold tupleText
  rw [strLen_append, strLen_append]
  have e1 : ("(" : Str).length = 1 := rfl
  have e2 : ((if ([PyData.shown (.int p.1), PyData.shown (.int p.2)] : List Str).length == 1 then ",)" else ")" : String) : Str).length = 1 := rfl
  omega
theorem rp_shares {l : List (Int × Int)} (h : ∀ p ∈ l, Lo 40 p) (hn : l.length ≤ 6) : rpOk (.lst (l.map shD)) = true := by
  have pl : ∀ l : List (Int × Int), D.plains 59 (l.map shD) = true := fun l => by
    induction l with
    | nil => rfl
    | cons p r ih =>
      rw [List.map_cons]
      simp only [D.plains, Bool.and_eq_true]
      exact ⟨by simp [shD, D.plain, D.plains], ih⟩
  have sh : ∀ l : List (Int × Int), (∀ p ∈ l, Lo 40 p) → PyData.showableAll (toPys (l.map shD)) = true := fun l => by
    induction l with
    | nil => intro _; rfl
    | cons p r ih =>
      intro h
      have hp := (h p List.mem_cons_self).sh
      have k1 : p.1.natAbs.log2 < 1920 := by have := log2_of hp.t; omega
      have k2 : p.2.natAbs.log2 < 1920 := by have := log2_of hp.b; omega
      simp [toPys, toPy, shD, PyData.showableAll, PyData.showable, k1, k2]
      exact ih fun q hq => h q (List.mem_cons_of_mem _ hq)
  have ln : ∀ l : List (Int × Int), (∀ p ∈ l, Lo 40 p) → piled (PyData.shownAll (toPys (l.map shD))) ≤ 92 * l.length := fun l => by
    induction l with
    | nil => intro _; exact Nat.le_refl _
    | cons p r ih =>
      intro h
      have i1 := ih fun q hq => h q (List.mem_cons_of_mem _ hq)
      have i2 := sh_len (h p List.mem_cons_self)
      show piled ((toPy (shD p)).shown :: PyData.shownAll (toPys (r.map shD))) ≤ 92 * (r.length + 1)
      rw [piled_cons]
      omega
  unfold rpOk
  simp only [Bool.and_eq_true, decide_eq_true_eq]
  refine ⟨⟨⟨trivial, ?_⟩, ?_⟩, ?_⟩
  · simp only [D.plain, Bool.and_eq_true, decide_eq_true_eq]
    exact ⟨by rw [List.length_map]; omega, pl l⟩
  · exact sh l h
  · have := ln l h
    have t := text_le (PyData.shownAll (toPys (l.map shD))) 0 "["
    show (textFrom 0 "[" (PyData.shownAll (toPys (l.map shD))) ++ "]").length ≤ _
    rw [strLen_append]
    have e1 : ("[" : Str).length = 1 := rfl
    have e2 : ("]" : Str).length = 1 := rfl
    omega
theorem bi_list (xs : List D) : biD "list" [.lst xs] = some (.lst xs, true) := by rfl
theorem bi_tuple (xs : List D) : biD "tuple" [.lst xs] = some (.tup xs, false) := by rfl
theorem ord_sh (x : D) : ordK ["shares"] ["shares"] [] [x] = some [x] := by rfl
theorem ps_tot : sg_total_of.ps = (["shares"] : List Str) := rfl
theorem e_total {l : List (Int × Int)} (h : ∀ p ∈ l, Lo 40 p) (hn : l.length ≤ 6) (s : List J) (d : D) (hd : itemsOf d = some (l.map shD)) : g_total_of [d] s = .ok (shD (tot l (0, 1)), false) s := by
  obtain ⟨u', hl⟩ := loop_tot (x := "share") (i := 2) (body := fun ρ s => svs flds b_total_of_1 ρ s) (a := .no) (b := .no) (f := fun _ _ _ => []) s (fun t u => [.sh d, .sh t, u]) (fun _ _ _ => rfl) (fun t p n hn ht hp => by
      have P : Sh (n + 40) p := ⟨hp.sh.t.mono (by omega), hp.sh.b.mono (by omega), hp.sh.nz⟩
      have T : Sh (n + 40) t := ⟨ht.sh.t.mono (by omega), ht.sh.b.mono (by omega), ht.sh.nz⟩
      have e2 := e_plus T P (by omega) s
      simp [b_total_of_1, ev, evs, svs, sv, liftE, Ot.then, setTg, e2]) l 40 (0, 1) .no lo01 h (by omega)
  have hl' : loopRun (.nm 2 "share") (fun ρ s => svs flds b_total_of_1 ρ s) (l.map shD) [.sh d, .sh (.tup [.int 0, .int 1]), .no] s = .nx [.sh d, .sh (shD (tot l (0, 1))), u'] s := hl
  simp [g_total_of, defn, b_total_of, ev, evs, svs, sv, liftE, Ot.then, setTg, hd, hl']
theorem e_total_right {l : List (Int × Int)} (h : ∀ p ∈ l, Lo 40 p) (hn : l.length ≤ 6) (s : List J) : g__law_total_right [.lst (l.map shD)] s = .ok (.bl true, false) s := by
  obtain ⟨u', hl⟩ := loop_tot (x := "one") (i := 2) (body := fun ρ s => svs flds b__law_total_right_1 ρ s) (a := .no) (b := .no) (f := fun _ _ _ => []) s (fun t u => [.sh (.lst (l.map shD)), .sh t, u, .no]) (fun _ _ _ => rfl) (fun t p n hn ht hp => by
      have P : Sh (n + 40) p := ⟨hp.sh.t.mono (by omega), hp.sh.b.mono (by omega), hp.sh.nz⟩
      have T : Sh (n + 40) t := ⟨ht.sh.t.mono (by omega), ht.sh.b.mono (by omega), ht.sh.nz⟩
      have e2 := e_sum T P (by omega) s
      simp [b__law_total_right_1, ev, evs, svs, sv, liftE, Ot.then, setTg, e2]) l 40 (0, 1) .no lo01 h (by omega)
  have hl' : loopRun (.nm 2 "one") (fun ρ s => svs flds b__law_total_right_1 ρ s) (l.map shD) [.sh (.lst (l.map shD)), .sh (.tup [.int 0, .int 1]), .no, .no] s = .nx [.sh (.lst (l.map shD)), .sh (shD (tot l (0, 1))), u', .no] s := hl
  have t1 := e_total h hn s (.lst (l.map shD)) rfl
  have t2 := e_total h hn s (.tup (l.map shD)) rfl
  have t3 := e_total (l := l.reverse) (fun p hp => h p (List.mem_reverse.mp hp)) (by simpa using hn) s (.lst ((l.map shD).reverse)) (by rw [it_lst, List.map_reverse])
  rw [tot_rev h] at t3
  have rp := rp_shares h hn
  simp only [g__law_total_right, defn, b__law_total_right, svs, sv, List.map_cons, List.map_nil, List.length_cons, List.length_nil]
  simp only [ev, evs, evb, boolOf, intOf, liftE, liftB, liftO, lift, R.bind_ok, Ot.then, setTg, it_lst, List.cons_append, List.nil_append, List.replicate, Nat.reduceSub, List.getElem?_cons_zero, List.getElem?_cons_succ, List.set_cons_succ, List.set_cons_zero, List.length_cons, List.length_nil, Nat.reduceAdd, Nat.reduceLeDiff, if_true, hl', bi_list, bi_tuple, t1, t2, t3, same_sh, ps_tot, ord_sh, Bool.not_true, Bool.false_eq_true, if_false, rp, decide_true]
end K00

set_option Elab.async false
set_option linter.all false
set_option maxRecDepth 100000
set_option maxHeartbeats 8000000
namespace K00
open PySem PySem.Spec PyProof.Rows L2 DL
theorem filt_abs (g : Int → Bool) : ∀ ns : List Int, ((ns.map D.int).filter fun d => match d with | .int i => g i | _ => false) = (ns.filter g).map D.int
  | [] => rfl
  | n :: r => by
    rw [List.map_cons, List.filter_cons, List.filter_cons, filt_abs g r]
    show (if g n = true then _ else _) = _
    split <;> rfl
theorem e_hand (ns : List Int) (hn : ns.length ≤ 63) : ∃ j, g__law_hand [.scr (ns.map D.int)] [] = .ok (.box 0, false) [j] ∧ JarOk 0 j := by
  have hcut : cutL (ns.map D.int) none (some 63) = ns.map D.int := by
    unfold cutL cutAt
    simp
    exact List.take_of_length_le (by simp; omega)
  -- cells
  have c1 : lcRun (.nm 4 "cell") (fun ρ s => evt flds b__law_hand_5 ρ s) (fun ρ s => ev flds false b__law_hand_4 ρ s) [.sh (.scr (ns.map D.int)), .no, .no, .no, .no] (ns.map D.int) [] [] = .ok (.lst (ns.map D.int), true) ([] : List J) := by
    rw [lc_run (fun _ => true) (fun d => d) (ns.map D.int) [] (fun d hd => ?_) (by simp; omega)]
    · simp
    · obtain ⟨n, _, rfl⟩ := List.mem_map.mp hd
      exact ⟨by simp [b__law_hand_5, evt], fun _ => ⟨false, by simp [b__law_hand_4, ev, evs, lift, bi_int]⟩⟩
  have p18 : binD .Pow (.int 10) (.int 18) = some (.int 1000000000000000000, false) := by rfl
  let big : Int → Bool := fun i => decide ((1000000000000000000 : Int) ≤ (i.natAbs : Int))
  let gs : List Int := (ns.filter big).map fun i => (i.natAbs : Int)
  have ha : ∀ i : Int, biD "abs" [.int i] = some (.int (i.natAbs : Int), false) := fun i => by rw [bi_abs, abs_nat]
  have c2 : lcRun (.nm 4 "cell") (fun ρ s => evt flds b__law_hand_3 ρ s) (fun ρ s => ev flds false b__law_hand_2 ρ s) [.sh (.scr (ns.map D.int)), .sh (.lst (ns.map D.int)), .no, .no, .no] (ns.map D.int) [] [] = .ok (.lst (gs.map D.int), true) ([] : List J) := by
    rw [lc_run (fun d => match d with | .int i => big i | _ => false) (fun d => match d with | .int i => .int (i.natAbs : Int) | d => d) (ns.map D.int) [] (fun d hd => ?_) (by simp; omega)]
    · rw [filt_abs big ns, List.nil_append, List.map_map, List.map_map]
      rfl
    · obtain ⟨n, _, rfl⟩ := List.mem_map.mp hd
      refine ⟨?_, fun _ => ⟨false, by simp only [b__law_hand_2, ev, evs, List.getElem?_cons_succ, List.getElem?_cons_zero, List.set_cons_succ, List.set_cons_zero, R.bind_ok, ha, lift]⟩⟩
      simp only [b__law_hand_3, evt, ev, evs, boolOf, List.getElem?_cons_succ, List.getElem?_cons_zero, List.set_cons_succ, List.set_cons_zero, R.bind_ok, ha, lift, liftB, p18, cmpD]
      rfl
  obtain ⟨ρ', s', hl, m, x, hm, rfl, rfl⟩ := loop_inv (x := "cell") (i := 4) (body := fun ρ s => svs flds b__law_hand_1 ρ s) (fun k ρ s => ∃ m x, Bd 40 m ∧ ρ = [.sh (.scr (ns.map D.int)), .sh (.lst (ns.map D.int)), .sh (.lst (gs.map D.int)), .sh (.int m), x] ∧ s = []) (fun d => ∃ i, d = .int i) (ns.map D.int).length (ns.map D.int) 0
    [.sh (.scr (ns.map D.int)), .sh (.lst (ns.map D.int)), .sh (.lst (gs.map D.int)), .sh (.int 90001), .no] ([] : List J) ⟨90001, _, by unfold Bd; decide, rfl, rfl⟩ (by omega) (fun d hd => by obtain ⟨n, _, rfl⟩ := List.mem_map.mp hd; exact ⟨n, rfl⟩) (by
      rintro k d ρ s hk ⟨i, rfl⟩ ⟨m, x, hm, rfl, rfl⟩
      have k1 : mulOk m 69069 = true := mulOk_of (m := 20) hm (show Bd 20 69069 by unfold Bd; decide) (by omega)
      have hr := emod_of (a := m * 69069 + i.fmod 2147483629 + 7) (b := 2147483629) (by decide)
      refine ⟨_, [], ?_, (m * 69069 + i.fmod 2147483629 + 7).fmod 2147483629, .sh (.int i), by unfold Bd; omega, rfl, rfl⟩
      simp [b__law_hand_1, ev, evs, svs, sv, liftE, lift, binD, Ot.then, setTg, bi_int, k1])
  refine ⟨[.lst (gs.map D.int), .int m, .int 0], ?_, ⟨gs, m, 0, rfl, fun g hg => ?_, ?_, hm, by omega, by omega⟩⟩
  · have g0 : g0__law_hand [.scr (ns.map D.int)] [] = .ok (.lst [.lst (gs.map D.int), .int m, .int 0], true) [] := by
      have w1 : wipeE [DL.Slot.sh (D.scr (ns.map D.int)), .no, .no, .no, .no] [("cell", 4)] = [.sh (.scr (ns.map D.int)), .no, .no, .no, .no] := rfl
      have w2 : wipeE [DL.Slot.sh (D.scr (ns.map D.int)), .sh (.lst (ns.map D.int)), .no, .no, .no] [("cell", 4)] = [.sh (.scr (ns.map D.int)), .sh (.lst (ns.map D.int)), .no, .no, .no] := rfl
      simp only [g0__law_hand, defn, b__law_hand, svs, sv, List.map_cons, List.map_nil, List.length_cons, List.length_nil]
      simp only [ev, evs, liftE, lift, R.bind_ok, Ot.then, setTg, isSkip, intOf, if_true, if_false, Bool.false_eq_true, hcut, it_lst, List.cons_append, List.nil_append, List.replicate, Nat.reduceSub, List.getElem?_cons_zero, List.getElem?_cons_succ, List.set_cons_succ, List.set_cons_zero, List.length_cons, List.length_nil, Nat.reduceAdd, Nat.reduceLeDiff, w1, c1, w2, c2, hl]
    have nb : noBoxs [.lst (gs.map D.int), .int m, .int 0] = true := by
      have : ∀ gs : List Int, noBoxs (gs.map D.int) = true := fun gs => by
        induction gs with
        | nil => rfl
        | cons g r ih => simp [noBoxs, noBox, ih]
      simp [noBoxs, noBox, this]
    simp [g__law_hand, jar, g0, nb]
  · obtain ⟨i, _, rfl⟩ := List.mem_map.mp hg
    omega
  · have := List.length_filter_le big ns
    show ((ns.filter big).map _).length ≤ 63
    rw [List.length_map]
    omega
theorem e_all {ns : List Int} (hn : ns.length ≤ 63) : ∃ s', g__law_all [.scr (ns.map D.int)] [] = .ok (.bl true, false) s' := by
  obtain ⟨j0, eh, J0⟩ := e_hand ns hn
  have r3 : rngOk 3 = true := by decide
  obtain ⟨ρ', s', hl, p, l, a, b, j1, rfl, rfl, hp, hll, hlen, J1⟩ := loop_inv (x := "k") (i := 4) (body := fun ρ s => svs flds b__law_all_1 ρ s) (fun m ρ s => ∃ p l a b j, ρ = [.sh (.scr (ns.map D.int)), .sh (.box 0), .sh (.lst (l.map shD)), .sh (shD p), a, b] ∧ s = [j] ∧ Lo 40 p ∧ (∀ q ∈ l, Lo 40 q) ∧ l.length = 2 * m ∧ JarOk (20 * m) j) (fun _ => True) 3 (intsUp 0 (3 : Int).toNat) 0
    [.sh (.scr (ns.map D.int)), .sh (.box 0), .sh (.lst []), .sh (shD (0, 1)), .no, .no] [j0] ⟨(0, 1), [], _, _, j0, rfl, rfl, lo01, fun q hq => absurd hq (by simp), rfl, J0⟩ (by rw [intsUp_len]; decide) (fun _ _ => trivial) (by
      rintro m d ρ s hm _ ⟨p, l, a, b, j, rfl, rfl, hp, hll, hlen, J⟩
      obtain ⟨q, j1, e1, hq, J1⟩ := e_lshare J (by omega)
      obtain ⟨r, j2, e2, hr, J2⟩ := e_second hq J1 (by omega)
      have e3 := e_pair hq hr [j2]
      have e4 := e_pair hq lo01 [j2]
      have e4' : g__law_pair_right [shD q, .tup [.int 0, .int 1]] [j2] = .ok (.bl true, false) [j2] := e4
      have hb : binD .Add (.lst (l.map shD)) (.lst [shD q, shD r]) = some (.lst ((l ++ [q, r]).map shD), true) := by
        simp only [binD, List.length_map, List.length_cons, List.length_nil]
        rw [if_pos (by omega)]
        simp
      refine ⟨_, _, ?_, q, l ++ [q, r], .sh d, .sh (shD r), j2, rfl, rfl, hq, fun z hz => ?_, by simp; omega, J2.mono (by omega)⟩
      · simp [b__law_all_1, ev, evs, evb, svs, sv, boolOf, liftE, lift, Ot.then, setTg, e1, e2, e3, e4', hb]
      · rcases List.mem_append.mp hz with hz | hz
        · exact hll z hz
        · simp only [List.mem_cons, List.not_mem_nil, or_false] at hz
          rcases hz with rfl | rfl
          · exact hq
          · exact hr)
  rw [intsUp_len] at hlen J1
  have J1' : JarOk 60 j1 := J1
  have hlen' : l.length = 6 := hlen
  obtain ⟨j2, e1, J2⟩ := e_made J1' (by omega)
  have e2 := e_values hp [j2]
  obtain ⟨told, j3, e3, t0, t1, J3⟩ := e_pick J2 (by omega) (many := 7) (by omega) (by omega)
  have hcut : cutL (l.map shD) none (some told) = (l.take told.toNat).map shD := by
    unfold cutL
    have h1 : cutAt (l.map shD).length 0 none = 0 := rfl
    have h2 : cutAt (l.map shD).length (l.map shD).length (some told) = min told.toNat (l.map shD).length := by
      unfold cutAt
      exact if_neg (by omega)
    rw [h1, h2, List.drop_zero, Nat.sub_zero, List.length_map, ← List.map_take, show min told.toNat l.length = told.toNat by omega]
  have e4 := e_total_right (l := l.take told.toNat) (fun q hq => hll q (List.mem_of_mem_take hq)) (by rw [List.length_take]; omega) [j3]
  have e5 : g__law_total_right [.lst []] [j3] = .ok (.bl true, false) [j3] := e_total_right (l := []) (fun q hq => absurd hq (by simp)) (by simp) [j3]
  obtain ⟨j4, e6, J4⟩ := e_chain hp J3 (by omega)
  have hl' : loopRun (.nm 4 "k") (fun ρ s => svs flds b__law_all_1 ρ s) (intsUp 0 (3 : Int).toNat) [.sh (.scr (ns.map D.int)), .sh (.box 0), .sh (.lst []), .sh (.tup [.int 0, .int 1]), .no, .no] [j0] = _ := hl
  refine ⟨[j4], ?_⟩
  simp only [g__law_all, defn, b__law_all, svs, sv, List.map_cons, List.map_nil, List.length_cons, List.length_nil]
  simp only [ev, evs, evb, boolOf, intOf, liftE, liftB, liftO, lift, R.bind_ok, Ot.then, setTg, isSkip, it_lst, r3, List.cons_append, List.nil_append, List.replicate, Nat.reduceSub, List.getElem?_cons_zero, List.getElem?_cons_succ, List.set_cons_succ, List.set_cons_zero, List.length_cons, List.length_nil, Nat.reduceAdd, Nat.reduceLeDiff, if_true, eh, hl', e1, e2, e3, hcut, e4, e5, e6, Bool.not_true, Bool.false_eq_true, if_false, Nat.zero_le]
theorem law_true (ns : List Int) (hn : ns.length ≤ 63) : ∃ s', g_law [.scr (ns.map D.int)] [] = .ok (.bl true, false) s' := by
  obtain ⟨s', h⟩ := e_all hn
  exact ⟨s', by simp [g_law, defn, b_law, svs, sv, ev, evs, liftE, Ot.then, h]⟩
end K00

set_option Elab.async false
set_option linter.all false
set_option maxRecDepth 100000
set_option maxHeartbeats 8000000
namespace K00
open PySem PySem.Spec PyProof.Rows L2 DL
abbrev rowsD : D := .lst [.tup [.int 0], .tup [.int 1]]
theorem rows_ok (s : List J) : g_are_rows [.int 1, rowsD] s = .ok (.bl true, false) s := by rfl
abbrev s_init : Stmt := inClass (top 24) 0
/-- banned beside: the new instance, its dict -/
theorem JOk.put {T : Jt J} {O : Addr → Prop} {H : Hp} {w : Ws} {s : List J} (jo : JOk T O H w s) {p : Addr} {o : HO} (ho : O p) (nj : ¬ w.inJ p) : JOk T O (upd H p o) w s :=
  ⟨jo.l1, jo.l2, fun k a fp x h1 h2 h3 => T.fr (jo.at_ k a fp x h1 h2 h3) (fun b u e n => ⟨by rw [upd_ne (show b ≠ p from fun q => n (.inl (by rw [q]; exact ho)))]; exact e, n⟩) fun b hb => by
    rw [upd_ne]
    intro e
    subst e
    exact nj ⟨fp, List.mem_of_getElem? h2, hb⟩, jo.ap⟩
/-- the sorted set of the two rows -/
theorem two_rows {t0 t1 : Addr} {L L' : List (Addr × List Int)} (h1 : ∀ p ∈ L, p ∈ [(t0, [0]), (t1, [1])]) (h2 : ∀ p ∈ [(t0, [(0 : Int)]), (t1, [1])], p.2 ∈ L.map (·.2)) (hp : L'.Perm L) (nd : (L'.map (·.2)).Nodup) (pw : L'.Pairwise (fun q r => TS.code 2 q.2 ≤ TS.code 2 r.2)) : L' = [(t0, [0]), (t1, [1])] := by
  have m : ∀ p ∈ L', p = (t0, [0]) ∨ p = (t1, [1]) := fun p hq => by
    have := h1 p (hp.mem_iff.mp hq)
    simpa using this
  have c0 : ([0] : List Int) ∈ L'.map (·.2) := by
    have := h2 (t0, [0]) (by simp)
    obtain ⟨q, hq, e⟩ := List.mem_map.mp this
    exact List.mem_map.mpr ⟨q, hp.mem_iff.mpr hq, e⟩
  have c1 : ([1] : List Int) ∈ L'.map (·.2) := by
    have := h2 (t1, [1]) (by simp)
    obtain ⟨q, hq, e⟩ := List.mem_map.mp this
    exact List.mem_map.mpr ⟨q, hp.mem_iff.mpr hq, e⟩
  have k0 : TS.code 2 [0] = 0 := by decide
  have k1 : TS.code 2 [1] = 1 := by decide
  match L', m, c0, c1, nd, pw with
  | [], _, c0, _, _, _ => simp at c0
  | [x], m, c0, c1, _, _ =>
    rcases m x (by simp) with rfl | rfl
    · simp at c1
    · simp at c0
  | [x, y], m, c0, c1, nd, pw =>
    rcases m x (by simp) with rfl | rfl <;> rcases m y (by simp) with rfl | rfl
    · simp at nd
    · rfl
    · simp [k0, k1] at pw
    · simp at nd
  | x :: y :: z :: r, m, _, _, nd, _ =>
    rcases m x (by simp) with rfl | rfl <;> rcases m y (by simp) with rfl | rfl <;> rcases m z (by simp) with rfl | rfl <;> simp at nd
/-- growth but for the place a -/
structure GoX (G : Gs) (a : Addr) (O : Addr → Prop) (H : Hp) (w : Ws) (H' : Hp) (w' : Ws) (s' : List J) : Prop where
  hb : ∀ (i : Nat) (b : Addr), w.hb[i]? = some b → w'.hb[i]? = some b
  st : ∀ b o, b ≠ a → H b = some o → ¬ w.inJ b → H' b = some o
  al : ∀ b, H b ≠ none → H' b ≠ none
  nw : ∀ b, w'.inJ b → w.inJ b ∨ H b = none
  kp : ∀ b, w.inJ b → w'.inJ b ∨ H' b ≠ none
  jok : JOk (TL G) O H' w' s'
section
variable {G : Gs} {a : Addr} {O : Addr → Prop} {H H1 : Hp} {w w1 : Ws} {s s1 : List J}
theorem GoX.of (g : Go (TL G) O H w H1 w1 s1) : GoX G a O H w H1 w1 s1 := ⟨g.hb, fun b o _ => g.st b o, g.al, g.nw, g.kp, g.jok⟩
theorem upd_al {H : Hp} {p b : Addr} {o : HO} (h : H b ≠ none) : upd H p o b ≠ none := by
  by_cases e : b = p
  · rw [e, upd_same]; exact fun z => nomatch z
  · rw [upd_ne e]; exact h
theorem GoX.put (g : GoX G a O H w H1 w1 s1) {o : HO} (ho : O a) (nj : ¬ w1.inJ a) : GoX G a O H w (upd H1 a o) w1 s1 :=
  ⟨g.hb, fun b u n e j => by rw [upd_ne n]; exact g.st b u n e j, fun b h => upd_al (g.al b h), g.nw, fun b h => (g.kp b h).imp id upd_al, JOk.put g.jok ho nj⟩
theorem GoX.new (g : GoX G a O H w H1 w1 s1) {p : Addr} {o : HO} (hp : H1 p = none) : GoX G a O H w (upd H1 p o) w1 s1 :=
  ⟨g.hb, fun b u n e j => by rw [upd_ne (ne_of_none (g.st b u n e j) hp)]; exact g.st b u n e j, fun b h => upd_al (g.al b h), g.nw, fun b h => (g.kp b h).imp id upd_al, g.jok.new hp⟩
end
/-- what Rules.__init__(self, 1, [(0,), (1,)]) does: at a the instance -/
def spRi (G : Gs) (C : Addr) : Sp := fun vs H Q E => ∃ (a dx l : Addr) (w : Ws) (s : List J) (O : Addr → Prop), vs = [.ref a, .int 1, .ref l] ∧ H a = some (.ins C dx []) ∧ OOk O w H ∧ JOk (TL G) O H w s ∧ O a ∧ Rep G O w H rowsD (.ref l) ∧
  ∀ H' w' p, GoX G a O H w H' w' s → OOk O w' H' → H' a = some (.ins C dx [("size", .int 1), ("rows", .ref p)]) → Rep G O w' H' (.tup [.tup [.int 0], .tup [.int 1]]) (.ref p) → Q .non H'
theorem tm2 : TMono (tCons (tVar 1) (tCons (tVar 2) tNil)) := fun σ H Q Q' m h => by
  obtain ⟨x, hx, y, hy, q⟩ := h
  exact ⟨x, hx, y, hy, m _ _ q⟩
theorem fn_rules {t : Tx} {G : Gs} {C : Addr} {k : Nat} {f : Addr} {dV kV doc pm cdv ct oc : Value} {an od : Option Addr} {osl : Array (Option Value)} (hK : t.K = G.K) (cR : ClOk t false k (TL G) G sg_are_rows g_are_rows)
    (lk : t.K.lookup f = some ⟨oc, od, .func (PySem.W.fnOf "__init__" "Rules.__init__" (defArgs s_init) (defBody s_init) (defScope s_init) dV kV doc pm an cdv ct), osl⟩) (hcd : PySem.W.codeIn t.K cdv "Rules.__init__" = true)
    (cl : Cls t.K C) (n1 : NoAttr t.K C "size") (n2 : NoAttr t.K C "rows") (z1 : t.mg "tuple" = none) (z2 : t.mg "sorted" = none) (z3 : t.mg "set" = none) :
    FnZ t.P t.w t.K t.mg t.base CX0 (k + 1) f (PySem.W.fnOf "__init__" "Rules.__init__" (defArgs s_init) (defBody s_init) (defScope s_init) dV kV doc pm an cdv ct) ["self", "size", "rows"] (spRi G C) := by
  have S : FnScope ["self", "size", "rows"] ["self", "size", "rows"] (defScope s_init) := ⟨rfl, rfl, rfl, by decide +kernel, rfl, by decide +kernel, by decide +kernel⟩
  refine fn_ofZ lk hcd S (fun vs H Q E ⟨a, dx, l, w, s, O, e, _⟩ => by rw [e]; rfl) fun A outer z H vs Q E hr hg hsp => ?_
  have gd : Gd t false k (cxOf CX0 t.P t.w t.K t.mg t.base ["self", "size", "rows"] "Rules.__init__" (defScope s_init) f cdv A outer z H E) WN :=
    ⟨rfl, rfl, rfl, rfl, rfl, S.nd, fun u s' ⟨_, _, _, _, _, _, _, _, _, _, _, _, _, _, _, _, w⟩ => w.elim, ⟨hr.dp, hr.un⟩, fun _ => ⟨rfl, hr.hd⟩, fun _ => hg, fun q => nomatch q⟩
  have hu : (A.deeper (envOfC "Rules.__init__" (defScope s_init) z.heap.objs.size f cdv)).units + 64 < cLine := by
    have := hr.un
    omega
  refine ⟨_, pss_cons (ps_if (pt_not (pt_val (cR.run _ WN _ _ _ _ _ gd (show glB (defScope s_init) sg_are_rows.x = true by decide +kernel) rfl (by intro b hb; simp at hb; subst hb; rfl) rfl tm2 (pa_cons (pv 1) (pa_cons (pv 2) pa_nil))) fun _ => rfl)) pss_never pss_nil)
    (pss_cons (ps_fld (pv 0) (pv 1) rfl) (pss_one (ps_fld (pv 0) (pe_callTy call_tuple_of (by rfl) z1 boot_tuple' (pa_cons (pe_callB (cr_sortedT rfl) (by rfl) z2 (by decide +kernel) (pa_cons (pe_callTy (cr_setOfT rfl hu) (by rfl) z3 (by decide +kernel) (pa_cons (pv 2) pa_nil)) pa_nil)) pa_nil)) rfl))), ?_⟩
  obtain ⟨a, dx, l, w, s, O, rfl, ha, ok, jo, oa, rp, hq⟩ := hsp
  have hK' : (cxOf CX0 t.P t.w t.K t.mg t.base ["self", "size", "rows"] "Rules.__init__" (defScope s_init) f cdv A outer z H E).K = G.K := hK
  refine ⟨.int 1, rfl, .ref l, rfl, [.int 1, rowsD], w, s, O, rfl, ok, jo, Reps.cons rfl (Reps.one rp), ?_⟩
  rw [rows_ok]
  intro v H1 w1 g r1 _
  have ev : v = .bl true := r1.rep
  subst ev
  have ok1 : OOk O w1 H1 := ok.go g
  have rp1 := rp.le g.le
  have ha1 : H1 a = some (.ins C dx []) := g.st a _ ha (ok.nj a oa)
  have gx1 := GoX.of (a := a) g
  obtain ⟨H2, eH2⟩ : ∃ H2, H2 = upd H1 a (.ins C dx [("size", .int 1)]) := ⟨_, rfl⟩
  have gx2 : GoX G a O H w H2 w1 s := eH2 ▸ gx1.put oa (ok1.nj a oa)
  have le2 : Le O w1 H1 O w1 H2 := ⟨fun _ _ q => q, fun b o q n => ⟨by rw [eH2, upd_ne (show b ≠ a from fun e => n (.inl (by rw [e]; exact oa)))]; exact q, n⟩⟩
  have ok2 : OOk O w1 H2 := ⟨fun b q => eH2 ▸ upd_al (ok1.al b q), ok1.nj⟩
  have rp2 := rp1.le le2
  have ha2 : H2 a = some (.ins C dx [("size", .int 1)]) := by rw [eH2, upd_same]
  obtain ⟨l', vs, el, hl, nb, t0, vr, rfl, ⟨p0, us0, rfl, ht0, ⟨_, _, rfl, rfl, rfl⟩⟩, t1, vr1, rfl, ⟨p1, us1, rfl, ht1, ⟨_, _, rfl, rfl, rfl⟩⟩, rfl⟩ := rp2
  cases el
  refine ⟨true, rfl, .int 1, rfl, .ref a, rfl, a, C, dx, [], rfl, ha1, cl, n1, by decide, ?_⟩
  show (tSeq _ _) _ _ (upd H1 a (.ins C dx [("size", .int 1)]))
  rw [← eH2]
  have tq : ∀ {H' : Hp}, (∀ b o, H2 b = some o → H' b = some o) → ∀ p ∈ [(p0, [(0 : Int)]), (p1, [1])], SqT G.K H' p.1 (p.2.map V.int) := fun {H'} hs p hp => by
    have e : p = (p0, [0]) ∨ p = (p1, [1]) := by simpa using hp
    rcases e with rfl | rfl
    · exact ht0.elim (fun z => .inl (.inl (hs _ _ z.1))) .inr
    · exact ht1.elim (fun z => .inl (.inl (hs _ _ z.1))) .inr
  refine ⟨.ref l, rfl, l, [(p0, [0]), (p1, [1])], rfl, .inl (.inl hl), fun p hp => ?_, by simp, fun ps L hps m1 m2 => ?_⟩
  · rw [hK']
    exact tq (fun _ _ q => q) p hp
  have sv : ∀ b o, H2 b = some o → upd H2 ps (SetTO t.P t.w ps L) b = some o := fun b o q => by rw [upd_ne (ne_of_none q hps)]; exact q
  refine ⟨ps, L, 1, 2, rfl, upd_same .., fun p hp => ?_, by decide, fun p hp => ?_, fun L' pl pm nd _ pw hpl => ?_⟩
  · rw [hK']
    exact tq sv p (m1 p hp)
  · have e : p = (p0, [0]) ∨ p = (p1, [1]) := by simpa using m1 p hp
    rcases e with rfl | rfl
    · exact ⟨rfl, fun m hm => by simp at hm; subst hm; decide⟩
    · exact ⟨rfl, fun m hm => by simp at hm; subst hm; decide⟩
  have eL : L' = [(p0, [0]), (p1, [1])] := two_rows m1 m2 pm nd pw
  subst eL
  refine ⟨pl, [.ref p0, .ref p1], rfl, .inl ⟨.inl (.inl (upd_same ..)), fun pt hpt => ?_⟩⟩
  have gx3 := gx2.new (o := SetTO t.P t.w ps L) hps
  have gx4 := gx3.new (o := .lst [.ref p0, .ref p1]) hpl
  have gx5 := gx4.new (o := .tup [.ref p0, .ref p1]) hpt
  have ha3 := sv a _ ha2
  have ha4 : upd (upd H2 ps (SetTO t.P t.w ps L)) pl (.lst [.ref p0, .ref p1]) a = some (.ins C dx [("size", .int 1)]) := by
    rw [upd_ne (ne_of_none ha3 hpl)]
    exact ha3
  have ha5 : upd (upd (upd H2 ps (SetTO t.P t.w ps L)) pl (.lst [.ref p0, .ref p1])) pt (.tup [.ref p0, .ref p1]) a = some (.ins C dx [("size", .int 1)]) := by
    rw [upd_ne (ne_of_none ha4 hpt)]
    exact ha4
  refine ⟨.ref a, rfl, a, C, dx, [("size", .int 1)], rfl, ha5, cl, n2, by simp, ?_⟩
  have ok4 : OOk O w1 (upd (upd H2 ps (SetTO t.P t.w ps L)) pl (.lst [.ref p0, .ref p1])) := ⟨fun b q => upd_al (upd_al (ok2.al b q)), ok1.nj⟩
  have tk : ∀ {b : Addr} {us : List V}, TupAt G O w1 H2 b us → TupAt G O w1 (upd (upd (upd (upd H2 ps (SetTO t.P t.w ps L)) pl (.lst [.ref p0, .ref p1])) pt (.tup [.ref p0, .ref p1])) a (.ins C dx [("size", .int 1), ("rows", .ref pt)])) b us := fun {b us} h => h.imp (fun z => ⟨by
    have e3 := sv b _ z.1
    rw [upd_ne (show b ≠ a from fun e => z.2 (.inl (by rw [e]; exact oa)))]
    rw [upd_ne (ne_of_none (by rw [upd_ne (ne_of_none e3 hpl)]; exact e3) hpt), upd_ne (ne_of_none e3 hpl)]
    exact e3, z.2⟩) id
  refine hq _ w1 pt (gx5.put oa (ok1.nj a oa)) ⟨fun b q => upd_al (upd_al (ok4.al b q)), ok1.nj⟩ (upd_same ..) (Rep.tup (vs := [.ref p0, .ref p1]) ?_ (ok4.free gx4.jok hpt) (Reps.cons ⟨p0, [.int 0], rfl, tk ht0, Reps.one rfl⟩ (Reps.one ⟨p1, [.int 1], rfl, tk ht1, Reps.one rfl⟩)))
  show upd (upd _ pt _) a _ pt = _
  rw [upd_ne (ne_of_none ha4 hpt).symm, upd_same]
/-- Rules(1, [(0,), (1,)]) -/
theorem rules_cl {t : Tx} {G : Gs} {C f : Addr} {fd : FuncData} {k j : Nat} (M : Mk t.K C f) (F : FnZ t.P t.w t.K t.mg t.base CX0 j f fd ["self", "size", "rows"] (spRi G C)) (hj : j + 1 ≤ k) (hm : t.mg "Rules" = some (.ref C)) (hb : Binds t.K fd ["self", "size", "rows"] [])
    (hca : G.ca "Rules" = some C) (hfl : G.fl "Rules" = (["size", "rows"] : List Str)) : ClOk t false k (TL G) G sg_Rules g_Rules where
  run := fun X W a as ta p pos gd gl h1 h2 hl mo ha => by
    have M' : Mk X.K C f := by rw [gd.K]; exact M
    have F' : FnZ X.prog X.w X.K X.mg X.base CX0 j f fd ["self", "size", "rows"] (spRi G C) := by rw [gd.pr, gd.wd, gd.K, gd.mg, gd.base]; exact F
    have hb' : Binds X.K fd ["self", "size", "rows"] [] := by rw [gd.K]; exact hb
    refine ⟨fun pins s σ H Q I hq => ?_⟩
    refine wpAny_Call_Name_kw (ld_glob I (glG gl) (by rw [gd.mg]; exact hm) ?_ (glB_gl gl).2)
    refine PySem.W.callWith_K (h₀ := X.base) I.ok.mod.kin M'.kp (thn (ha.run pos pins s σ H _ I hq) fun us s1 ⟨vs, H1, I1, rv, q⟩ => ⟨I1.kIn, ?_⟩) (pl_star h1 _) (pl_any h2)
    obtain ⟨ds, w, s0, O, hl2, oo, jo, rs, q⟩ := q
    unfold g_Rules at q
    split at q
    · obtain ⟨_, _, rfl, rfl, _, _, rfl, rp, rfl⟩ := rs
      obtain ⟨l, rfl⟩ : ∃ l, _ = V.ref l := by
        obtain ⟨l, vs', e, z⟩ := rp
        exact ⟨l, e⟩
      refine run_makeZ M' F' ((gd_room gd).mono hj) (gd.gr rfl) hb' I1 rv fun x dx hx hdx ne => ?_
      have hx' : upd H1 dx (.own x) x = none := by rw [upd_ne ne.symm]; exact hx
      have j1 := jo.newO (o := .own x) hdx
      have j2 := j1.newO (o := .ins C dx []) hx'
      have ji : ∀ b, w.inJ b → H1 b ≠ none := fun b z n => by
        obtain ⟨xs, e⟩ := jo.alloc z
        rw [n] at e; cases e
      have ok2 : OOk (fun b => (O b ∨ b = dx) ∨ b = x) w (upd (upd H1 dx (.own x)) x (.ins C dx [])) := ⟨fun b z => by
        rcases z with (z | rfl) | rfl
        · exact upd_al (upd_al (oo.al b z))
        · exact upd_al (by rw [upd_same]; exact fun z => nomatch z)
        · rw [upd_same]; exact fun z => (nomatch z), fun b z => by
        rcases z with (z | rfl) | rfl
        · exact oo.nj b z
        · exact fun q => ji _ q hdx
        · exact fun q => ji _ q hx⟩
      have le2 : Le O w H1 (fun b => (O b ∨ b = dx) ∨ b = x) w (upd (upd H1 dx (.own x)) x (.ins C dx [])) := ⟨fun _ _ h => h, fun b o h n => by
        have n1 : b ≠ dx := ne_of_none h hdx
        have n2 : b ≠ x := ne_of_none h hx
        refine ⟨by rw [upd_ne n2, upd_ne n1]; exact h, fun z => ?_⟩
        rcases z with ((z | z) | z) | z
        · exact n (.inl z)
        · exact n1 z
        · exact n2 z
        · exact n (.inr z)⟩
      refine ⟨x, dx, l, w, s0, _, rfl, upd_same .., ok2, j2, .inr rfl, rp.le le2, fun H' w' p' g ok' ha' rp' => ⟨rfl, ?_⟩⟩
      have leb : Le (fun b => (O b ∨ b = dx) ∨ b = x) w' H' O w' H' := ⟨fun _ _ h => h, fun b o h n => ⟨h, fun z => n (z.imp (fun y => .inl (.inl y)) id)⟩⟩
      have nb : ¬ Ban O w' x := fun z => by
        rcases z with z | z
        · exact oo.al x z hx
        · rcases g.nw x z with z | z
          · exact ji x z hx
          · rw [upd_same] at z; cases z
      have rr : Rep G O w' H' (.ins "Rules" [.int 1, .tup [.tup [.int 0], .tup [.int 1]]]) (.ref x) :=
        ⟨x, C, dx, [.int 1, .ref p'], rfl, hca, by rw [hfl]; exact ha', nb, by rw [hfl]; rfl, Reps.cons rfl (Reps.one (rp'.le leb))⟩
      have gg : Go (TL G) O H1 w H' w' s0 := ⟨g.hb, fun b o h nj => g.st b o (ne_of_none h hx) (by rw [upd_ne (ne_of_none h hx), upd_ne (ne_of_none h hdx)]; exact h) nj, fun b h => g.al b (upd_al (upd_al h)), fun b h => (g.nw b h).imp id fun z => Classical.byContradiction fun n => upd_al (upd_al n) z, g.kp, g.jok.mono fun b h => .inl (.inl h)⟩
      exact q (.ref x) H' w' gg (rr.rp _) Own.no
    · exact q.elim
  runk := fun X W as ks kws ta tk p pos _ gd gl h2 hkl => by
    cases hkl
end K00

set_option Elab.async false
set_option linter.all false
set_option maxRecDepth 100000
set_option maxHeartbeats 8000000
namespace K00
open PySem PySem.Spec PyProof.Rows L2 DL
abbrev s_InvalidNumber : Stmt := inClass (top 3) 0
abbrev s_Undefined : Stmt := inClass (top 5) 0
theorem ite_some {α β : Type} [DecidableEq α] {a c : α} {x y : β} {r : Option β} (h : (if c = a then some x else r) = some y) : (c = a ∧ x = y) ∨ r = some y := by
  split at h
  · exact .inl ⟨by assumption, Option.some.inj h⟩
  · exact .inr h
theorem all_mk {l : PySem.W.OpenLaw} {w : World} {K : PySem.W.Frag} {h : Heap} {mg : Str → Option Value} {fa : Addr} (KX : K.In h) (NS : h.Ns mainGlobals mg) (hfa : mg "law" = some (.ref fa))
    {f_is_integer : Addr} {od_is_integer an_is_integer : Option Addr} {sl_is_integer : Array (Option Value)} {oc_is_integer kV_is_integer dc_is_integer pm_is_integer cd_is_integer ct_is_integer : Value}
    {f_is_value : Addr} {od_is_value an_is_value : Option Addr} {sl_is_value : Array (Option Value)} {oc_is_value kV_is_value dc_is_value pm_is_value cd_is_value ct_is_value : Value}
    {f_is_row : Addr} {od_is_row an_is_row : Option Addr} {sl_is_row : Array (Option Value)} {oc_is_row kV_is_row dc_is_row pm_is_row cd_is_row ct_is_row : Value}
    {f_is_number : Addr} {od_is_number an_is_number : Option Addr} {sl_is_number : Array (Option Value)} {oc_is_number kV_is_number dc_is_number pm_is_number cd_is_number ct_is_number : Value}
    {f_are_rows : Addr} {od_are_rows an_are_rows : Option Addr} {sl_are_rows : Array (Option Value)} {oc_are_rows kV_are_rows dc_are_rows pm_are_rows cd_are_rows ct_are_rows : Value}
    {f__law_same : Addr} {od__law_same an__law_same : Option Addr} {sl__law_same : Array (Option Value)} {oc__law_same kV__law_same dc__law_same pm__law_same cd__law_same ct__law_same : Value}
    {f_common_divisor : Addr} {od_common_divisor an_common_divisor : Option Addr} {sl_common_divisor : Array (Option Value)} {oc_common_divisor kV_common_divisor dc_common_divisor pm_common_divisor cd_common_divisor ct_common_divisor : Value}
    {f_is_share : Addr} {od_is_share an_is_share : Option Addr} {sl_is_share : Array (Option Value)} {oc_is_share kV_is_share dc_is_share pm_is_share cd_is_share ct_is_share : Value}
    {f__law_up : Addr} {od__law_up an__law_up : Option Addr} {sl__law_up : Array (Option Value)} {oc__law_up kV__law_up dc__law_up pm__law_up cd__law_up ct__law_up : Value}
    {f_rounded_up : Addr} {od_rounded_up an_rounded_up : Option Addr} {sl_rounded_up : Array (Option Value)} {oc_rounded_up kV_rounded_up dc_rounded_up pm_rounded_up cd_rounded_up ct_rounded_up : Value}
    {f_is_below : Addr} {od_is_below an_is_below : Option Addr} {sl_is_below : Array (Option Value)} {oc_is_below kV_is_below dc_is_below pm_is_below cd_is_below ct_is_below : Value}
    {f_share_of : Addr} {od_share_of an_share_of : Option Addr} {sl_share_of : Array (Option Value)} {oc_share_of kV_share_of dc_share_of pm_share_of cd_share_of ct_share_of : Value}
    {f_over : Addr} {od_over an_over : Option Addr} {sl_over : Array (Option Value)} {oc_over kV_over dc_over pm_over cd_over ct_over : Value}
    {f__law_low : Addr} {od__law_low an__law_low : Option Addr} {sl__law_low : Array (Option Value)} {oc__law_low kV__law_low dc__law_low pm__law_low cd__law_low ct__law_low : Value}
    {f_times : Addr} {od_times an_times : Option Addr} {sl_times : Array (Option Value)} {oc_times kV_times dc_times pm_times cd_times ct_times : Value}
    {f_less : Addr} {od_less an_less : Option Addr} {sl_less : Array (Option Value)} {oc_less kV_less dc_less pm_less cd_less ct_less : Value}
    {f__law_sum : Addr} {od__law_sum an__law_sum : Option Addr} {sl__law_sum : Array (Option Value)} {oc__law_sum kV__law_sum dc__law_sum pm__law_sum cd__law_sum ct__law_sum : Value}
    {f_plus : Addr} {od_plus an_plus : Option Addr} {sl_plus : Array (Option Value)} {oc_plus kV_plus dc_plus pm_plus cd_plus ct_plus : Value}
    {f__law_pick : Addr} {od__law_pick an__law_pick : Option Addr} {sl__law_pick : Array (Option Value)} {oc__law_pick kV__law_pick dc__law_pick pm__law_pick cd__law_pick ct__law_pick : Value}
    {f__law_number : Addr} {od__law_number an__law_number : Option Addr} {sl__law_number : Array (Option Value)} {oc__law_number kV__law_number dc__law_number pm__law_number cd__law_number ct__law_number : Value}
    {f__law_share : Addr} {od__law_share an__law_share : Option Addr} {sl__law_share : Array (Option Value)} {oc__law_share kV__law_share dc__law_share pm__law_share cd__law_share ct__law_share : Value}
    {f__law_second : Addr} {od__law_second an__law_second : Option Addr} {sl__law_second : Array (Option Value)} {oc__law_second kV__law_second dc__law_second pm__law_second cd__law_second ct__law_second : Value}
    {f__law_chain_right : Addr} {od__law_chain_right an__law_chain_right : Option Addr} {sl__law_chain_right : Array (Option Value)} {oc__law_chain_right kV__law_chain_right dc__law_chain_right pm__law_chain_right cd__law_chain_right ct__law_chain_right : Value}
    {f_total_of : Addr} {od_total_of an_total_of : Option Addr} {sl_total_of : Array (Option Value)} {oc_total_of kV_total_of dc_total_of pm_total_of cd_total_of ct_total_of : Value}
    {f__law_total_right : Addr} {od__law_total_right an__law_total_right : Option Addr} {sl__law_total_right : Array (Option Value)} {oc__law_total_right kV__law_total_right dc__law_total_right pm__law_total_right cd__law_total_right ct__law_total_right : Value}
    {f__law_is_share : Addr} {od__law_is_share an__law_is_share : Option Addr} {sl__law_is_share : Array (Option Value)} {oc__law_is_share kV__law_is_share dc__law_is_share pm__law_is_share cd__law_is_share ct__law_is_share : Value}
    {f__law_values_right : Addr} {od__law_values_right an__law_values_right : Option Addr} {sl__law_values_right : Array (Option Value)} {oc__law_values_right kV__law_values_right dc__law_values_right pm__law_values_right cd__law_values_right ct__law_values_right : Value}
    {f__law_bottom_refused : Addr} {od__law_bottom_refused an__law_bottom_refused : Option Addr} {sl__law_bottom_refused : Array (Option Value)} {oc__law_bottom_refused kV__law_bottom_refused dc__law_bottom_refused pm__law_bottom_refused cd__law_bottom_refused ct__law_bottom_refused : Value}
    {f__law_made_right : Addr} {od__law_made_right an__law_made_right : Option Addr} {sl__law_made_right : Array (Option Value)} {oc__law_made_right kV__law_made_right dc__law_made_right pm__law_made_right cd__law_made_right ct__law_made_right : Value}
    {f__law_nought_refused : Addr} {od__law_nought_refused an__law_nought_refused : Option Addr} {sl__law_nought_refused : Array (Option Value)} {oc__law_nought_refused kV__law_nought_refused dc__law_nought_refused pm__law_nought_refused cd__law_nought_refused ct__law_nought_refused : Value}
    {f__law_pair_right : Addr} {od__law_pair_right an__law_pair_right : Option Addr} {sl__law_pair_right : Array (Option Value)} {oc__law_pair_right kV__law_pair_right dc__law_pair_right pm__law_pair_right cd__law_pair_right ct__law_pair_right : Value}
    {f__law_hand : Addr} {od__law_hand an__law_hand : Option Addr} {sl__law_hand : Array (Option Value)} {oc__law_hand kV__law_hand dc__law_hand pm__law_hand cd__law_hand ct__law_hand : Value}
    {f__law_all : Addr} {od__law_all an__law_all : Option Addr} {sl__law_all : Array (Option Value)} {oc__law_all kV__law_all dc__law_all pm__law_all cd__law_all ct__law_all : Value}
    {f_law : Addr} {od_law an_law : Option Addr} {sl_law : Array (Option Value)} {oc_law kV_law dc_law pm_law cd_law ct_law : Value}
    {X_InvalidNumber i_InvalidNumber : Addr} {xnm_InvalidNumber xq_InvalidNumber : Str} {xN_InvalidNumber : Addr} {xbs_InvalidNumber xbm_InvalidNumber : List Value} {xsn_InvalidNumber : List Str} {xsub_InvalidNumber : List Value} {xab_InvalidNumber : Bool} {xcol_InvalidNumber : Option Bool} {xdd_InvalidNumber : Option Addr} {x0_InvalidNumber x1_InvalidNumber x2_InvalidNumber x3_InvalidNumber x5_InvalidNumber : Option Value} {od_InvalidNumber an_InvalidNumber : Option Addr} {sl_InvalidNumber : Array (Option Value)} {oc_InvalidNumber kV_InvalidNumber dc_InvalidNumber pm_InvalidNumber cd_InvalidNumber ct_InvalidNumber : Value}
    {X_Undefined i_Undefined : Addr} {xnm_Undefined xq_Undefined : Str} {xN_Undefined : Addr} {xbs_Undefined xbm_Undefined : List Value} {xsn_Undefined : List Str} {xsub_Undefined : List Value} {xab_Undefined : Bool} {xcol_Undefined : Option Bool} {xdd_Undefined : Option Addr} {x0_Undefined x1_Undefined x2_Undefined x3_Undefined x5_Undefined : Option Value} {od_Undefined an_Undefined : Option Addr} {sl_Undefined : Array (Option Value)} {oc_Undefined kV_Undefined dc_Undefined pm_Undefined cd_Undefined ct_Undefined : Value}
    {X_GuessError : Addr}
    {C_Rules : Addr}
    {i_Rules : Addr} {od_Rules an_Rules : Option Addr} {sl_Rules : Array (Option Value)} {oc_Rules kV_Rules dc_Rules pm_Rules cd_Rules ct_Rules : Value}
    (a_is_integer : PySem.W.nsIn K mainGlobals "is_integer" = some (some (.ref f_is_integer)))
    (l_is_integer : K.lookup f_is_integer = some ⟨oc_is_integer, od_is_integer, .func (PySem.W.fnOf "is_integer" "is_integer" (defArgs s_is_integer) (defBody s_is_integer) (defScope s_is_integer) .none kV_is_integer dc_is_integer pm_is_integer an_is_integer cd_is_integer ct_is_integer), sl_is_integer⟩)
    (c_is_integer : PySem.W.codeIn K cd_is_integer "is_integer" = true)
    (k_is_integer : PySem.W.keepIn K (.ref f_is_integer) = true)
    (a_is_value : PySem.W.nsIn K mainGlobals "is_value" = some (some (.ref f_is_value)))
    (l_is_value : K.lookup f_is_value = some ⟨oc_is_value, od_is_value, .func (PySem.W.fnOf "is_value" "is_value" (defArgs s_is_value) (defBody s_is_value) (defScope s_is_value) .none kV_is_value dc_is_value pm_is_value an_is_value cd_is_value ct_is_value), sl_is_value⟩)
    (c_is_value : PySem.W.codeIn K cd_is_value "is_value" = true)
    (k_is_value : PySem.W.keepIn K (.ref f_is_value) = true)
    (a_is_row : PySem.W.nsIn K mainGlobals "is_row" = some (some (.ref f_is_row)))
    (l_is_row : K.lookup f_is_row = some ⟨oc_is_row, od_is_row, .func (PySem.W.fnOf "is_row" "is_row" (defArgs s_is_row) (defBody s_is_row) (defScope s_is_row) .none kV_is_row dc_is_row pm_is_row an_is_row cd_is_row ct_is_row), sl_is_row⟩)
    (c_is_row : PySem.W.codeIn K cd_is_row "is_row" = true)
    (k_is_row : PySem.W.keepIn K (.ref f_is_row) = true)
    (a_is_number : PySem.W.nsIn K mainGlobals "is_number" = some (some (.ref f_is_number)))
    (l_is_number : K.lookup f_is_number = some ⟨oc_is_number, od_is_number, .func (PySem.W.fnOf "is_number" "is_number" (defArgs s_is_number) (defBody s_is_number) (defScope s_is_number) .none kV_is_number dc_is_number pm_is_number an_is_number cd_is_number ct_is_number), sl_is_number⟩)
    (c_is_number : PySem.W.codeIn K cd_is_number "is_number" = true)
    (k_is_number : PySem.W.keepIn K (.ref f_is_number) = true)
    (a_are_rows : PySem.W.nsIn K mainGlobals "are_rows" = some (some (.ref f_are_rows)))
    (l_are_rows : K.lookup f_are_rows = some ⟨oc_are_rows, od_are_rows, .func (PySem.W.fnOf "are_rows" "are_rows" (defArgs s_are_rows) (defBody s_are_rows) (defScope s_are_rows) .none kV_are_rows dc_are_rows pm_are_rows an_are_rows cd_are_rows ct_are_rows), sl_are_rows⟩)
    (c_are_rows : PySem.W.codeIn K cd_are_rows "are_rows" = true)
    (k_are_rows : PySem.W.keepIn K (.ref f_are_rows) = true)
    (a__law_same : PySem.W.nsIn K mainGlobals "_law_same" = some (some (.ref f__law_same)))
    (l__law_same : K.lookup f__law_same = some ⟨oc__law_same, od__law_same, .func (PySem.W.fnOf "_law_same" "_law_same" (defArgs s__law_same) (defBody s__law_same) (defScope s__law_same) .none kV__law_same dc__law_same pm__law_same an__law_same cd__law_same ct__law_same), sl__law_same⟩)
    (c__law_same : PySem.W.codeIn K cd__law_same "_law_same" = true)
    (k__law_same : PySem.W.keepIn K (.ref f__law_same) = true)
    (a_common_divisor : PySem.W.nsIn K mainGlobals "common_divisor" = some (some (.ref f_common_divisor)))
    (l_common_divisor : K.lookup f_common_divisor = some ⟨oc_common_divisor, od_common_divisor, .func (PySem.W.fnOf "common_divisor" "common_divisor" (defArgs s_common_divisor) (defBody s_common_divisor) (defScope s_common_divisor) .none kV_common_divisor dc_common_divisor pm_common_divisor an_common_divisor cd_common_divisor ct_common_divisor), sl_common_divisor⟩)
    (c_common_divisor : PySem.W.codeIn K cd_common_divisor "common_divisor" = true)
    (k_common_divisor : PySem.W.keepIn K (.ref f_common_divisor) = true)
    (a_is_share : PySem.W.nsIn K mainGlobals "is_share" = some (some (.ref f_is_share)))
    (l_is_share : K.lookup f_is_share = some ⟨oc_is_share, od_is_share, .func (PySem.W.fnOf "is_share" "is_share" (defArgs s_is_share) (defBody s_is_share) (defScope s_is_share) .none kV_is_share dc_is_share pm_is_share an_is_share cd_is_share ct_is_share), sl_is_share⟩)
    (c_is_share : PySem.W.codeIn K cd_is_share "is_share" = true)
    (k_is_share : PySem.W.keepIn K (.ref f_is_share) = true)
    (a__law_up : PySem.W.nsIn K mainGlobals "_law_up" = some (some (.ref f__law_up)))
    (l__law_up : K.lookup f__law_up = some ⟨oc__law_up, od__law_up, .func (PySem.W.fnOf "_law_up" "_law_up" (defArgs s__law_up) (defBody s__law_up) (defScope s__law_up) .none kV__law_up dc__law_up pm__law_up an__law_up cd__law_up ct__law_up), sl__law_up⟩)
    (c__law_up : PySem.W.codeIn K cd__law_up "_law_up" = true)
    (k__law_up : PySem.W.keepIn K (.ref f__law_up) = true)
    (a_rounded_up : PySem.W.nsIn K mainGlobals "rounded_up" = some (some (.ref f_rounded_up)))
    (l_rounded_up : K.lookup f_rounded_up = some ⟨oc_rounded_up, od_rounded_up, .func (PySem.W.fnOf "rounded_up" "rounded_up" (defArgs s_rounded_up) (defBody s_rounded_up) (defScope s_rounded_up) .none kV_rounded_up dc_rounded_up pm_rounded_up an_rounded_up cd_rounded_up ct_rounded_up), sl_rounded_up⟩)
    (c_rounded_up : PySem.W.codeIn K cd_rounded_up "rounded_up" = true)
    (k_rounded_up : PySem.W.keepIn K (.ref f_rounded_up) = true)
    (a_is_below : PySem.W.nsIn K mainGlobals "is_below" = some (some (.ref f_is_below)))
    (l_is_below : K.lookup f_is_below = some ⟨oc_is_below, od_is_below, .func (PySem.W.fnOf "is_below" "is_below" (defArgs s_is_below) (defBody s_is_below) (defScope s_is_below) .none kV_is_below dc_is_below pm_is_below an_is_below cd_is_below ct_is_below), sl_is_below⟩)
    (c_is_below : PySem.W.codeIn K cd_is_below "is_below" = true)
    (k_is_below : PySem.W.keepIn K (.ref f_is_below) = true)
    (a_share_of : PySem.W.nsIn K mainGlobals "share_of" = some (some (.ref f_share_of)))
    (l_share_of : K.lookup f_share_of = some ⟨oc_share_of, od_share_of, .func (PySem.W.fnOf "share_of" "share_of" (defArgs s_share_of) (defBody s_share_of) (defScope s_share_of) .none kV_share_of dc_share_of pm_share_of an_share_of cd_share_of ct_share_of), sl_share_of⟩)
    (c_share_of : PySem.W.codeIn K cd_share_of "share_of" = true)
    (k_share_of : PySem.W.keepIn K (.ref f_share_of) = true)
    (a_over : PySem.W.nsIn K mainGlobals "over" = some (some (.ref f_over)))
    (l_over : K.lookup f_over = some ⟨oc_over, od_over, .func (PySem.W.fnOf "over" "over" (defArgs s_over) (defBody s_over) (defScope s_over) .none kV_over dc_over pm_over an_over cd_over ct_over), sl_over⟩)
    (c_over : PySem.W.codeIn K cd_over "over" = true)
    (k_over : PySem.W.keepIn K (.ref f_over) = true)
    (a__law_low : PySem.W.nsIn K mainGlobals "_law_low" = some (some (.ref f__law_low)))
    (l__law_low : K.lookup f__law_low = some ⟨oc__law_low, od__law_low, .func (PySem.W.fnOf "_law_low" "_law_low" (defArgs s__law_low) (defBody s__law_low) (defScope s__law_low) .none kV__law_low dc__law_low pm__law_low an__law_low cd__law_low ct__law_low), sl__law_low⟩)
    (c__law_low : PySem.W.codeIn K cd__law_low "_law_low" = true)
    (k__law_low : PySem.W.keepIn K (.ref f__law_low) = true)
    (a_times : PySem.W.nsIn K mainGlobals "times" = some (some (.ref f_times)))
    (l_times : K.lookup f_times = some ⟨oc_times, od_times, .func (PySem.W.fnOf "times" "times" (defArgs s_times) (defBody s_times) (defScope s_times) .none kV_times dc_times pm_times an_times cd_times ct_times), sl_times⟩)
    (c_times : PySem.W.codeIn K cd_times "times" = true)
    (k_times : PySem.W.keepIn K (.ref f_times) = true)
    (a_less : PySem.W.nsIn K mainGlobals "less" = some (some (.ref f_less)))
    (l_less : K.lookup f_less = some ⟨oc_less, od_less, .func (PySem.W.fnOf "less" "less" (defArgs s_less) (defBody s_less) (defScope s_less) .none kV_less dc_less pm_less an_less cd_less ct_less), sl_less⟩)
    (c_less : PySem.W.codeIn K cd_less "less" = true)
    (k_less : PySem.W.keepIn K (.ref f_less) = true)
    (a__law_sum : PySem.W.nsIn K mainGlobals "_law_sum" = some (some (.ref f__law_sum)))
    (l__law_sum : K.lookup f__law_sum = some ⟨oc__law_sum, od__law_sum, .func (PySem.W.fnOf "_law_sum" "_law_sum" (defArgs s__law_sum) (defBody s__law_sum) (defScope s__law_sum) .none kV__law_sum dc__law_sum pm__law_sum an__law_sum cd__law_sum ct__law_sum), sl__law_sum⟩)
    (c__law_sum : PySem.W.codeIn K cd__law_sum "_law_sum" = true)
    (k__law_sum : PySem.W.keepIn K (.ref f__law_sum) = true)
    (a_plus : PySem.W.nsIn K mainGlobals "plus" = some (some (.ref f_plus)))
    (l_plus : K.lookup f_plus = some ⟨oc_plus, od_plus, .func (PySem.W.fnOf "plus" "plus" (defArgs s_plus) (defBody s_plus) (defScope s_plus) .none kV_plus dc_plus pm_plus an_plus cd_plus ct_plus), sl_plus⟩)
    (c_plus : PySem.W.codeIn K cd_plus "plus" = true)
    (k_plus : PySem.W.keepIn K (.ref f_plus) = true)
    (a__law_pick : PySem.W.nsIn K mainGlobals "_law_pick" = some (some (.ref f__law_pick)))
    (l__law_pick : K.lookup f__law_pick = some ⟨oc__law_pick, od__law_pick, .func (PySem.W.fnOf "_law_pick" "_law_pick" (defArgs s__law_pick) (defBody s__law_pick) (defScope s__law_pick) .none kV__law_pick dc__law_pick pm__law_pick an__law_pick cd__law_pick ct__law_pick), sl__law_pick⟩)
    (c__law_pick : PySem.W.codeIn K cd__law_pick "_law_pick" = true)
    (k__law_pick : PySem.W.keepIn K (.ref f__law_pick) = true)
    (a__law_number : PySem.W.nsIn K mainGlobals "_law_number" = some (some (.ref f__law_number)))
    (l__law_number : K.lookup f__law_number = some ⟨oc__law_number, od__law_number, .func (PySem.W.fnOf "_law_number" "_law_number" (defArgs s__law_number) (defBody s__law_number) (defScope s__law_number) .none kV__law_number dc__law_number pm__law_number an__law_number cd__law_number ct__law_number), sl__law_number⟩)
    (c__law_number : PySem.W.codeIn K cd__law_number "_law_number" = true)
    (k__law_number : PySem.W.keepIn K (.ref f__law_number) = true)
    (a__law_share : PySem.W.nsIn K mainGlobals "_law_share" = some (some (.ref f__law_share)))
    (l__law_share : K.lookup f__law_share = some ⟨oc__law_share, od__law_share, .func (PySem.W.fnOf "_law_share" "_law_share" (defArgs s__law_share) (defBody s__law_share) (defScope s__law_share) .none kV__law_share dc__law_share pm__law_share an__law_share cd__law_share ct__law_share), sl__law_share⟩)
    (c__law_share : PySem.W.codeIn K cd__law_share "_law_share" = true)
    (k__law_share : PySem.W.keepIn K (.ref f__law_share) = true)
    (a__law_second : PySem.W.nsIn K mainGlobals "_law_second" = some (some (.ref f__law_second)))
    (l__law_second : K.lookup f__law_second = some ⟨oc__law_second, od__law_second, .func (PySem.W.fnOf "_law_second" "_law_second" (defArgs s__law_second) (defBody s__law_second) (defScope s__law_second) .none kV__law_second dc__law_second pm__law_second an__law_second cd__law_second ct__law_second), sl__law_second⟩)
    (c__law_second : PySem.W.codeIn K cd__law_second "_law_second" = true)
    (k__law_second : PySem.W.keepIn K (.ref f__law_second) = true)
    (a__law_chain_right : PySem.W.nsIn K mainGlobals "_law_chain_right" = some (some (.ref f__law_chain_right)))
    (l__law_chain_right : K.lookup f__law_chain_right = some ⟨oc__law_chain_right, od__law_chain_right, .func (PySem.W.fnOf "_law_chain_right" "_law_chain_right" (defArgs s__law_chain_right) (defBody s__law_chain_right) (defScope s__law_chain_right) .none kV__law_chain_right dc__law_chain_right pm__law_chain_right an__law_chain_right cd__law_chain_right ct__law_chain_right), sl__law_chain_right⟩)
    (c__law_chain_right : PySem.W.codeIn K cd__law_chain_right "_law_chain_right" = true)
    (k__law_chain_right : PySem.W.keepIn K (.ref f__law_chain_right) = true)
    (a_total_of : PySem.W.nsIn K mainGlobals "total_of" = some (some (.ref f_total_of)))
    (l_total_of : K.lookup f_total_of = some ⟨oc_total_of, od_total_of, .func (PySem.W.fnOf "total_of" "total_of" (defArgs s_total_of) (defBody s_total_of) (defScope s_total_of) .none kV_total_of dc_total_of pm_total_of an_total_of cd_total_of ct_total_of), sl_total_of⟩)
    (c_total_of : PySem.W.codeIn K cd_total_of "total_of" = true)
    (k_total_of : PySem.W.keepIn K (.ref f_total_of) = true)
    (a__law_total_right : PySem.W.nsIn K mainGlobals "_law_total_right" = some (some (.ref f__law_total_right)))
    (l__law_total_right : K.lookup f__law_total_right = some ⟨oc__law_total_right, od__law_total_right, .func (PySem.W.fnOf "_law_total_right" "_law_total_right" (defArgs s__law_total_right) (defBody s__law_total_right) (defScope s__law_total_right) .none kV__law_total_right dc__law_total_right pm__law_total_right an__law_total_right cd__law_total_right ct__law_total_right), sl__law_total_right⟩)
    (c__law_total_right : PySem.W.codeIn K cd__law_total_right "_law_total_right" = true)
    (k__law_total_right : PySem.W.keepIn K (.ref f__law_total_right) = true)
    (a__law_is_share : PySem.W.nsIn K mainGlobals "_law_is_share" = some (some (.ref f__law_is_share)))
    (l__law_is_share : K.lookup f__law_is_share = some ⟨oc__law_is_share, od__law_is_share, .func (PySem.W.fnOf "_law_is_share" "_law_is_share" (defArgs s__law_is_share) (defBody s__law_is_share) (defScope s__law_is_share) .none kV__law_is_share dc__law_is_share pm__law_is_share an__law_is_share cd__law_is_share ct__law_is_share), sl__law_is_share⟩)
    (c__law_is_share : PySem.W.codeIn K cd__law_is_share "_law_is_share" = true)
    (k__law_is_share : PySem.W.keepIn K (.ref f__law_is_share) = true)
    (a__law_values_right : PySem.W.nsIn K mainGlobals "_law_values_right" = some (some (.ref f__law_values_right)))
    (l__law_values_right : K.lookup f__law_values_right = some ⟨oc__law_values_right, od__law_values_right, .func (PySem.W.fnOf "_law_values_right" "_law_values_right" (defArgs s__law_values_right) (defBody s__law_values_right) (defScope s__law_values_right) .none kV__law_values_right dc__law_values_right pm__law_values_right an__law_values_right cd__law_values_right ct__law_values_right), sl__law_values_right⟩)
    (c__law_values_right : PySem.W.codeIn K cd__law_values_right "_law_values_right" = true)
    (k__law_values_right : PySem.W.keepIn K (.ref f__law_values_right) = true)
    (a__law_bottom_refused : PySem.W.nsIn K mainGlobals "_law_bottom_refused" = some (some (.ref f__law_bottom_refused)))
    (l__law_bottom_refused : K.lookup f__law_bottom_refused = some ⟨oc__law_bottom_refused, od__law_bottom_refused, .func (PySem.W.fnOf "_law_bottom_refused" "_law_bottom_refused" (defArgs s__law_bottom_refused) (defBody s__law_bottom_refused) (defScope s__law_bottom_refused) .none kV__law_bottom_refused dc__law_bottom_refused pm__law_bottom_refused an__law_bottom_refused cd__law_bottom_refused ct__law_bottom_refused), sl__law_bottom_refused⟩)
    (c__law_bottom_refused : PySem.W.codeIn K cd__law_bottom_refused "_law_bottom_refused" = true)
    (k__law_bottom_refused : PySem.W.keepIn K (.ref f__law_bottom_refused) = true)
    (a__law_made_right : PySem.W.nsIn K mainGlobals "_law_made_right" = some (some (.ref f__law_made_right)))
    (l__law_made_right : K.lookup f__law_made_right = some ⟨oc__law_made_right, od__law_made_right, .func (PySem.W.fnOf "_law_made_right" "_law_made_right" (defArgs s__law_made_right) (defBody s__law_made_right) (defScope s__law_made_right) .none kV__law_made_right dc__law_made_right pm__law_made_right an__law_made_right cd__law_made_right ct__law_made_right), sl__law_made_right⟩)
    (c__law_made_right : PySem.W.codeIn K cd__law_made_right "_law_made_right" = true)
    (k__law_made_right : PySem.W.keepIn K (.ref f__law_made_right) = true)
    (a__law_nought_refused : PySem.W.nsIn K mainGlobals "_law_nought_refused" = some (some (.ref f__law_nought_refused)))
    (l__law_nought_refused : K.lookup f__law_nought_refused = some ⟨oc__law_nought_refused, od__law_nought_refused, .func (PySem.W.fnOf "_law_nought_refused" "_law_nought_refused" (defArgs s__law_nought_refused) (defBody s__law_nought_refused) (defScope s__law_nought_refused) .none kV__law_nought_refused dc__law_nought_refused pm__law_nought_refused an__law_nought_refused cd__law_nought_refused ct__law_nought_refused), sl__law_nought_refused⟩)
    (c__law_nought_refused : PySem.W.codeIn K cd__law_nought_refused "_law_nought_refused" = true)
    (k__law_nought_refused : PySem.W.keepIn K (.ref f__law_nought_refused) = true)
    (a__law_pair_right : PySem.W.nsIn K mainGlobals "_law_pair_right" = some (some (.ref f__law_pair_right)))
    (l__law_pair_right : K.lookup f__law_pair_right = some ⟨oc__law_pair_right, od__law_pair_right, .func (PySem.W.fnOf "_law_pair_right" "_law_pair_right" (defArgs s__law_pair_right) (defBody s__law_pair_right) (defScope s__law_pair_right) .none kV__law_pair_right dc__law_pair_right pm__law_pair_right an__law_pair_right cd__law_pair_right ct__law_pair_right), sl__law_pair_right⟩)
    (c__law_pair_right : PySem.W.codeIn K cd__law_pair_right "_law_pair_right" = true)
    (k__law_pair_right : PySem.W.keepIn K (.ref f__law_pair_right) = true)
    (a__law_hand : PySem.W.nsIn K mainGlobals "_law_hand" = some (some (.ref f__law_hand)))
    (l__law_hand : K.lookup f__law_hand = some ⟨oc__law_hand, od__law_hand, .func (PySem.W.fnOf "_law_hand" "_law_hand" (defArgs s__law_hand) (defBody s__law_hand) (defScope s__law_hand) .none kV__law_hand dc__law_hand pm__law_hand an__law_hand cd__law_hand ct__law_hand), sl__law_hand⟩)
    (c__law_hand : PySem.W.codeIn K cd__law_hand "_law_hand" = true)
    (k__law_hand : PySem.W.keepIn K (.ref f__law_hand) = true)
    (a__law_all : PySem.W.nsIn K mainGlobals "_law_all" = some (some (.ref f__law_all)))
    (l__law_all : K.lookup f__law_all = some ⟨oc__law_all, od__law_all, .func (PySem.W.fnOf "_law_all" "_law_all" (defArgs s__law_all) (defBody s__law_all) (defScope s__law_all) .none kV__law_all dc__law_all pm__law_all an__law_all cd__law_all ct__law_all), sl__law_all⟩)
    (c__law_all : PySem.W.codeIn K cd__law_all "_law_all" = true)
    (k__law_all : PySem.W.keepIn K (.ref f__law_all) = true)
    (a_law : PySem.W.nsIn K mainGlobals "law" = some (some (.ref f_law)))
    (l_law : K.lookup f_law = some ⟨oc_law, od_law, .func (PySem.W.fnOf "law" "law" (defArgs s_law) (defBody s_law) (defScope s_law) .none kV_law dc_law pm_law an_law cd_law ct_law), sl_law⟩)
    (c_law : PySem.W.codeIn K cd_law "law" = true)
    (k_law : PySem.W.keepIn K (.ref f_law) = true)
    (aC_InvalidNumber : PySem.W.nsIn K mainGlobals "InvalidNumber" = some (some (.ref X_InvalidNumber)))
    (xL_InvalidNumber : K.lookup X_InvalidNumber = some (excClassObj xnm_InvalidNumber xq_InvalidNumber X_InvalidNumber xN_InvalidNumber xbs_InvalidNumber xbm_InvalidNumber true xsn_InvalidNumber xsub_InvalidNumber xab_InvalidNumber xcol_InvalidNumber xdd_InvalidNumber x0_InvalidNumber x1_InvalidNumber x2_InvalidNumber x3_InvalidNumber x5_InvalidNumber "ValueError.__new__"))
    (xb_InvalidNumber : PySem.HandSPX.refsVE xbm_InvalidNumber = true)
    (sa_InvalidNumber : PySem.W.findIn K (.ref X_InvalidNumber) "__setattr__" = some (some (.builtin "object.__setattr__")))
    (eC_InvalidNumber : PySem.W.subIn K (.ref X_InvalidNumber) (.type "BaseException") = some true)
    (tC_InvalidNumber : PySem.W.typeIn K (.ref X_InvalidNumber) = some (.type "type"))
    (kC_InvalidNumber : PySem.W.keepIn K (.ref X_InvalidNumber) = true)
    (iC_InvalidNumber : PySem.W.findIn K (.ref X_InvalidNumber) "__init__" = some (some (.ref i_InvalidNumber)))
    (tI_InvalidNumber : PySem.W.typeIn K (.ref i_InvalidNumber) = some (.type "function"))
    (li_InvalidNumber : K.lookup i_InvalidNumber = some ⟨oc_InvalidNumber, od_InvalidNumber, .func (PySem.W.fnOf "__init__" "InvalidNumber.__init__" (defArgs s_InvalidNumber) (defBody s_InvalidNumber) (defScope s_InvalidNumber) .none kV_InvalidNumber dc_InvalidNumber pm_InvalidNumber an_InvalidNumber cd_InvalidNumber ct_InvalidNumber), sl_InvalidNumber⟩)
    (ci_InvalidNumber : PySem.W.codeIn K cd_InvalidNumber "InvalidNumber.__init__" = true)
    (no_InvalidNumber : PySem.W.findIn K (.ref X_InvalidNumber) "value" = some none)
    (ga_InvalidNumber : PySem.W.findIn K (.ref X_InvalidNumber) "__getattribute__" = some (some (.builtin "BaseException.__getattribute__")))
    (gg_InvalidNumber : PySem.W.findIn K (.ref X_InvalidNumber) "__getattr__" = some none)
    (hC_InvalidNumber : PySem.W.hasDictIn K X_InvalidNumber = true)
    (aC_Undefined : PySem.W.nsIn K mainGlobals "Undefined" = some (some (.ref X_Undefined)))
    (xL_Undefined : K.lookup X_Undefined = some (excClassObj xnm_Undefined xq_Undefined X_Undefined xN_Undefined xbs_Undefined xbm_Undefined true xsn_Undefined xsub_Undefined xab_Undefined xcol_Undefined xdd_Undefined x0_Undefined x1_Undefined x2_Undefined x3_Undefined x5_Undefined "ValueError.__new__"))
    (xb_Undefined : PySem.HandSPX.refsVE xbm_Undefined = true)
    (sa_Undefined : PySem.W.findIn K (.ref X_Undefined) "__setattr__" = some (some (.builtin "object.__setattr__")))
    (eC_Undefined : PySem.W.subIn K (.ref X_Undefined) (.type "BaseException") = some true)
    (tC_Undefined : PySem.W.typeIn K (.ref X_Undefined) = some (.type "type"))
    (kC_Undefined : PySem.W.keepIn K (.ref X_Undefined) = true)
    (iC_Undefined : PySem.W.findIn K (.ref X_Undefined) "__init__" = some (some (.ref i_Undefined)))
    (tI_Undefined : PySem.W.typeIn K (.ref i_Undefined) = some (.type "function"))
    (li_Undefined : K.lookup i_Undefined = some ⟨oc_Undefined, od_Undefined, .func (PySem.W.fnOf "__init__" "Undefined.__init__" (defArgs s_Undefined) (defBody s_Undefined) (defScope s_Undefined) .none kV_Undefined dc_Undefined pm_Undefined an_Undefined cd_Undefined ct_Undefined), sl_Undefined⟩)
    (ci_Undefined : PySem.W.codeIn K cd_Undefined "Undefined.__init__" = true)
    (no_Undefined : PySem.W.findIn K (.ref X_Undefined) "what" = some none)
    (ga_Undefined : PySem.W.findIn K (.ref X_Undefined) "__getattribute__" = some (some (.builtin "BaseException.__getattribute__")))
    (gg_Undefined : PySem.W.findIn K (.ref X_Undefined) "__getattr__" = some none)
    (hC_Undefined : PySem.W.hasDictIn K X_Undefined = true)
    (is_InvalidNumber : PySem.W.isClsIn K X_InvalidNumber = true)
    (is_Undefined : PySem.W.isClsIn K X_Undefined = true)
    (aC_GuessError : PySem.W.nsIn K mainGlobals "GuessError" = some (some (.ref X_GuessError)))
    (eC_GuessError : PySem.W.subIn K (.ref X_GuessError) (.type "BaseException") = some true)
    (tC_GuessError : PySem.W.typeIn K (.ref X_GuessError) = some (.type "type"))
    (is_GuessError : PySem.W.isClsIn K X_GuessError = true)
    (ex_InvalidNumber_InvalidNumber : PySem.W.subIn K (.ref X_InvalidNumber) (.ref X_InvalidNumber) = some true)
    (ex_Undefined_InvalidNumber : PySem.W.subIn K (.ref X_Undefined) (.ref X_InvalidNumber) = some false)
    (ex_InvalidNumber_Undefined : PySem.W.subIn K (.ref X_InvalidNumber) (.ref X_Undefined) = some false)
    (ex_Undefined_Undefined : PySem.W.subIn K (.ref X_Undefined) (.ref X_Undefined) = some true)
    (ex_InvalidNumber_GuessError : PySem.W.subIn K (.ref X_InvalidNumber) (.ref X_GuessError) = some true)
    (ex_Undefined_GuessError : PySem.W.subIn K (.ref X_Undefined) (.ref X_GuessError) = some true)
    (aK_Rules : PySem.W.nsIn K mainGlobals "Rules" = some (some (.ref C_Rules)))
    (pg_Rules : PySem.W.plainGet K C_Rules Str.empty = true)
    (hd_Rules : PySem.W.hasDictIn K C_Rules = true)
    (po_Rules : PySem.W.plainOver K C_Rules = true)
    (ks_Rules : PySem.W.findIn K (.ref C_Rules) "__setattr__" = some (some (.builtin "object.__setattr__")))
    (na_Rules_size : PySem.W.findIn K (.ref C_Rules) "size" = some none)
    (na_Rules_rows : PySem.W.findIn K (.ref C_Rules) "rows" = some none)
    (isa_Rules : PySem.W.findIn K (.ref C_Rules) "__class__" = some (some (.builtin "object.__class__")))
    (isg_Rules : PySem.W.specialIn K (.builtin "object.__class__") "__get__" = some (some (.builtin "getset_descriptor.__get__")))
    (ist_Rules : PySem.W.takesIn K (.builtin "object.__class__") = some true)
    (ism_Rules : PySem.W.mroIn K C_Rules (.type "object") = some true)
    (isb_Rules_int : PySem.W.subIn K (.ref C_Rules) (.type "int") = some false)
    (isb_Rules_bool : PySem.W.subIn K (.ref C_Rules) (.type "bool") = some false)
    (isb_Rules_str : PySem.W.subIn K (.ref C_Rules) (.type "str") = some false)
    (isb_Rules_tuple : PySem.W.subIn K (.ref C_Rules) (.type "tuple") = some false)
    (isb_Rules_list : PySem.W.subIn K (.ref C_Rules) (.type "list") = some false)
    (mm_Rules : PySem.W.makesIn K C_Rules = true)
    (mi_Rules : PySem.W.findIn K (.ref C_Rules) "__init__" = some (some (.ref i_Rules)))
    (mf_Rules : PySem.W.isFn K (.ref i_Rules) = true)
    (mk_Rules : PySem.W.keepIn K (.ref C_Rules) = true)
    (ml_Rules : K.lookup i_Rules = some ⟨oc_Rules, od_Rules, .func (PySem.W.fnOf "__init__" "Rules.__init__" (defArgs s_init) (defBody s_init) (defScope s_init) .none kV_Rules dc_Rules pm_Rules an_Rules cd_Rules ct_Rules), sl_Rules⟩)
    (mc_Rules : PySem.W.codeIn K cd_Rules "Rules.__init__" = true)
    (z_set : PySem.W.nsIn K mainGlobals "set" = some none)
    (z_sorted : PySem.W.nsIn K mainGlobals "sorted" = some none)
    (z_len : PySem.W.nsIn K mainGlobals "len" = some none)
    (z_abs : PySem.W.nsIn K mainGlobals "abs" = some none)
    (z_int : PySem.W.nsIn K mainGlobals "int" = some none)
    (z_max : PySem.W.nsIn K mainGlobals "max" = some none)
    (z_min : PySem.W.nsIn K mainGlobals "min" = some none)
    (z_tuple : PySem.W.nsIn K mainGlobals "tuple" = some none)
    (z_list : PySem.W.nsIn K mainGlobals "list" = some none)
    (z_range : PySem.W.nsIn K mainGlobals "range" = some none)
    (z_isinstance : PySem.W.nsIn K mainGlobals "isinstance" = some none)
    (z_bool : PySem.W.nsIn K mainGlobals "bool" = some none)
    (z_str : PySem.W.nsIn K mainGlobals "str" = some none)
    (z_repr : PySem.W.nsIn K mainGlobals "repr" = some none)
    (hlaw : ∀ ns : List Int, ns.length ≤ 63 → ∃ s', g_law [.scr (ns.map D.int)] [] = .ok (.bl true, false) s') :
    ∃ (fd : FuncData) (sp : Sp), (∀ (s : Shared) (u : Value), BindsTo s fd ⟨[u], []⟩ [("script", u)]) ∧ (∀ (H : Hp) (a : Addr) (ns : List Int), ns.length ≤ 63 → Only H → SqL K H a (ns.map V.int) → sp [.ref a] H (fun v _ => v = .bl true) fun _ _ _ => False) ∧ ∀ base : Heap, K.In base → base.Ns mainGlobals mg → FnZ l.prog w K mg base (L2N.CX l.prog w) 60 fa fd ["script"] sp := by
  have e := hfa.symm.trans (PySem.W.mg_of KX NS a_law)
  cases e
  let G : Gs := ⟨K, fun c => if c = "Rules" then some C_Rules else none, flds, fun c => if c = "InvalidNumber" then some X_InvalidNumber else if c = "Undefined" then some X_Undefined else none⟩
  have TF : ∀ base : Heap, Tff ⟨l.prog, w, K, mg, base⟩ G := fun base => by
    refine { hK := rfl, hC := ?_, bi := ?_, hX := ?_ }
    · refine ⟨fun c C h => ?_, fun c C f h hf => ?_, fun c C h => ?_, fun c C h => ?_, fun c C h => ?_, fun c C h => ?_, fun c C h => ?_⟩
      · replace h := show (if c = "Rules" then some C_Rules else none) = some C from h
        rcases ite_some h with ⟨rfl, rfl⟩ | h
        · exact ⟨pg_Rules, hd_Rules, po_Rules, ks_Rules⟩
        · cases h
      · replace h := show (if c = "Rules" then some C_Rules else none) = some C from h
        rcases ite_some h with ⟨rfl, rfl⟩ | h
        · replace hf := show f ∈ flds "Rules" from hf
          rw [show flds "Rules" = (["size", "rows"] : List Str) from by decide +kernel] at hf
          simp only [List.mem_cons, List.not_mem_nil, or_false] at hf
          rcases hf with rfl | rfl
          · exact na_Rules_size
          · exact na_Rules_rows
        · cases h
      · replace h := show (if c = "Rules" then some C_Rules else none) = some C from h
        rcases ite_some h with ⟨rfl, rfl⟩ | h
        · exact isa_Rules
        · cases h
      · replace h := show (if c = "Rules" then some C_Rules else none) = some C from h
        rcases ite_some h with ⟨rfl, rfl⟩ | h
        · exact isg_Rules
        · cases h
      · replace h := show (if c = "Rules" then some C_Rules else none) = some C from h
        rcases ite_some h with ⟨rfl, rfl⟩ | h
        · exact ist_Rules
        · cases h
      · replace h := show (if c = "Rules" then some C_Rules else none) = some C from h
        rcases ite_some h with ⟨rfl, rfl⟩ | h
        · exact ism_Rules
        · cases h
      · replace h := show (if c = "Rules" then some C_Rules else none) = some C from h
        rcases ite_some h with ⟨rfl, rfl⟩ | h
        · refine ⟨by decide +kernel, fun t ht => ?_⟩
          unfold tyT at ht
          simp only [List.mem_cons, List.not_mem_nil, or_false] at ht
          rcases ht with rfl | rfl | rfl | rfl | rfl
          · exact kit_no (by decide +kernel) isb_Rules_int
          · exact kit_no (by decide +kernel) isb_Rules_bool
          · exact kit_no (by decide +kernel) isb_Rules_str
          · exact kit_no (by decide +kernel) isb_Rules_tuple
          · exact kit_no (by decide +kernel) isb_Rules_list
        · cases h
    · intro x hx
      unfold biNames at hx
      simp only [List.mem_cons, List.not_mem_nil, or_false] at hx
      rcases hx with rfl | rfl | rfl | rfl | rfl | rfl | rfl | rfl | rfl | rfl | rfl | rfl
      · exact PySem.W.mg_none_of KX NS z_len
      · exact PySem.W.mg_none_of KX NS z_abs
      · exact PySem.W.mg_none_of KX NS z_int
      · exact PySem.W.mg_none_of KX NS z_max
      · exact PySem.W.mg_none_of KX NS z_min
      · exact PySem.W.mg_none_of KX NS z_tuple
      · exact PySem.W.mg_none_of KX NS z_list
      · exact PySem.W.mg_none_of KX NS z_range
      · exact PySem.W.mg_none_of KX NS z_isinstance
      · exact PySem.W.mg_none_of KX NS z_bool
      · exact PySem.W.mg_none_of KX NS z_str
      · exact PySem.W.mg_none_of KX NS z_repr
    · intro cn C h
      replace h := show ((fun (c : Str) => if c = "InvalidNumber" then some X_InvalidNumber else if c = "Undefined" then some X_Undefined else none) cn : Option Addr) = some C from h
      rcases ite_some h with ⟨rfl, rfl⟩ | h
      · refine ⟨⟨ga_InvalidNumber, gg_InvalidNumber, eC_InvalidNumber, hC_InvalidNumber⟩, fun f hf => ?_⟩
        replace hf := show f ∈ flds "InvalidNumber" from hf
        rw [show flds "InvalidNumber" = (["value"] : List Str) from by decide +kernel] at hf
        rw [List.mem_singleton] at hf
        subst hf
        exact no_InvalidNumber
      rcases ite_some h with ⟨rfl, rfl⟩ | h
      · refine ⟨⟨ga_Undefined, gg_Undefined, eC_Undefined, hC_Undefined⟩, fun f hf => ?_⟩
        replace hf := show f ∈ flds "Undefined" from hf
        rw [show flds "Undefined" = (["what"] : List Str) from by decide +kernel] at hf
        rw [List.mem_singleton] at hf
        subst hf
        exact no_Undefined
      cases h
  have y_InvalidNumber : YesOk K G (.ref X_InvalidNumber) yes_InvalidNumber := by
    intro cn C h
    replace h := show ((fun (c : Str) => if c = "InvalidNumber" then some X_InvalidNumber else if c = "Undefined" then some X_Undefined else none) cn : Option Addr) = some C from h
    rcases ite_some h with ⟨rfl, rfl⟩ | h
    · exact (exm_of eC_InvalidNumber is_InvalidNumber tC_InvalidNumber ex_InvalidNumber_InvalidNumber).trans (by decide +kernel)
    rcases ite_some h with ⟨rfl, rfl⟩ | h
    · exact (exm_of eC_InvalidNumber is_InvalidNumber tC_InvalidNumber ex_Undefined_InvalidNumber).trans (by decide +kernel)
    cases h
  have y_Undefined : YesOk K G (.ref X_Undefined) yes_Undefined := by
    intro cn C h
    replace h := show ((fun (c : Str) => if c = "InvalidNumber" then some X_InvalidNumber else if c = "Undefined" then some X_Undefined else none) cn : Option Addr) = some C from h
    rcases ite_some h with ⟨rfl, rfl⟩ | h
    · exact (exm_of eC_Undefined is_Undefined tC_Undefined ex_InvalidNumber_Undefined).trans (by decide +kernel)
    rcases ite_some h with ⟨rfl, rfl⟩ | h
    · exact (exm_of eC_Undefined is_Undefined tC_Undefined ex_Undefined_Undefined).trans (by decide +kernel)
    cases h
  have y_GuessError : YesOk K G (.ref X_GuessError) yes_GuessError := by
    intro cn C h
    replace h := show ((fun (c : Str) => if c = "InvalidNumber" then some X_InvalidNumber else if c = "Undefined" then some X_Undefined else none) cn : Option Addr) = some C from h
    rcases ite_some h with ⟨rfl, rfl⟩ | h
    · exact (exm_of eC_GuessError is_GuessError tC_GuessError ex_InvalidNumber_GuessError).trans (by decide +kernel)
    rcases ite_some h with ⟨rfl, rfl⟩ | h
    · exact (exm_of eC_GuessError is_GuessError tC_GuessError ex_Undefined_GuessError).trans (by decide +kernel)
    cases h
  refine ⟨PySem.W.fnOf "law" "law" (defArgs s_law) (defBody s_law) (defScope s_law) .none kV_law dc_law pm_law an_law cd_law ct_law, spD (TL G) G sg_law g_law false, fun s u => .of_eq rfl, fun H a ns hn hO hS => law_start (x := "script") rfl hO hS (hlaw ns hn), fun base b1 b2 => ?_⟩
  let t : Tx := ⟨l.prog, w, K, mg, base⟩
  have T : Tff t G := TF base
  have N_InvalidNumber : FnOk t.P t.w t.K t.mg t.base CX0 1 i_InvalidNumber (PySem.W.fnOf "__init__" "InvalidNumber.__init__" (defArgs s_InvalidNumber) (defBody s_InvalidNumber) (defScope s_InvalidNumber) .none kV_InvalidNumber dc_InvalidNumber pm_InvalidNumber an_InvalidNumber cd_InvalidNumber ct_InvalidNumber) ["self", "value"] (spI1 t.K "value") :=
    fn_init1 (k := 0) (K := K) (fld := "value") (v := "value") li_InvalidNumber ci_InvalidNumber ⟨rfl, rfl, rfl, by decide +kernel, rfl, by decide +kernel, by decide +kernel⟩ (by decide +kernel) (by decide +kernel)
  have R_InvalidNumber : ∀ k, 2 ≤ k → RsOk t k G "InvalidNumber" 1 := fun k hk => rs_of1 (j := 1) (C := X_InvalidNumber) (by show ((fun (c : Str) => if c = "InvalidNumber" then some X_InvalidNumber else if c = "Undefined" then some X_Undefined else none) "InvalidNumber" : Option Addr) = _; simp only [if_true, if_false]) (show flds "InvalidNumber" = (["value"] : List Str) from by decide +kernel)
    ⟨⟨_, _, _, _, _, _, _, _, _, _, _, _, _, _, _, xL_InvalidNumber, xb_InvalidNumber⟩, sa_InvalidNumber, eC_InvalidNumber, tC_InvalidNumber, kC_InvalidNumber⟩ iC_InvalidNumber tI_InvalidNumber no_InvalidNumber N_InvalidNumber hk (.all fun us hl => match us, hl with | [_, _], _ => rfl) (PySem.W.mg_of KX NS aC_InvalidNumber)
  have N_Undefined : FnOk t.P t.w t.K t.mg t.base CX0 1 i_Undefined (PySem.W.fnOf "__init__" "Undefined.__init__" (defArgs s_Undefined) (defBody s_Undefined) (defScope s_Undefined) .none kV_Undefined dc_Undefined pm_Undefined an_Undefined cd_Undefined ct_Undefined) ["self", "what"] (spI1 t.K "what") :=
    fn_init1 (k := 0) (K := K) (fld := "what") (v := "what") li_Undefined ci_Undefined ⟨rfl, rfl, rfl, by decide +kernel, rfl, by decide +kernel, by decide +kernel⟩ (by decide +kernel) (by decide +kernel)
  have R_Undefined : ∀ k, 2 ≤ k → RsOk t k G "Undefined" 1 := fun k hk => rs_of1 (j := 1) (C := X_Undefined) (by show ((fun (c : Str) => if c = "InvalidNumber" then some X_InvalidNumber else if c = "Undefined" then some X_Undefined else none) "Undefined" : Option Addr) = _; simp only [show ¬ (("Undefined" : Str) = "InvalidNumber") from by decide +kernel, if_true, if_false]) (show flds "Undefined" = (["what"] : List Str) from by decide +kernel)
    ⟨⟨_, _, _, _, _, _, _, _, _, _, _, _, _, _, _, xL_Undefined, xb_Undefined⟩, sa_Undefined, eC_Undefined, tC_Undefined, kC_Undefined⟩ iC_Undefined tI_Undefined no_Undefined N_Undefined hk (.all fun us hl => match us, hl with | [_, _], _ => rfl) (PySem.W.mg_of KX NS aC_Undefined)
  have F_is_integer : FnZ t.P t.w t.K t.mg t.base (L2N.CX t.P t.w) 2 f_is_integer (PySem.W.fnOf "is_integer" "is_integer" (defArgs s_is_integer) (defBody s_is_integer) (defScope s_is_integer) .none kV_is_integer dc_is_integer pm_is_integer an_is_integer cd_is_integer ct_is_integer) sg_is_integer.ps (spD (TL G) G sg_is_integer g_is_integer false) := fn_cold (k := 1) T l_is_integer c_is_integer sc_is_integer m_is_integer ok_is_integer
  have C_is_integer : ∀ k, 2 ≤ k → ClOk t false k (TL G) G sg_is_integer g_is_integer := fun k hk => cl_cold F_is_integer hk (PySem.W.mg_of KX NS a_is_integer) k_is_integer (.all fun us hl => match us, hl with | [_], _ => rfl) (fun p hp => nomatch hp)
  have F_is_value : FnZ t.P t.w t.K t.mg t.base (L2N.CX t.P t.w) 3 f_is_value (PySem.W.fnOf "is_value" "is_value" (defArgs s_is_value) (defBody s_is_value) (defScope s_is_value) .none kV_is_value dc_is_value pm_is_value an_is_value cd_is_value ct_is_value) sg_is_value.ps (spD (TL G) G sg_is_value g_is_value false) := fn_cold (k := 2) T l_is_value c_is_value sc_is_value m_is_value (ok_is_value (C_is_integer _ (by omega)))
  have C_is_value : ∀ k, 3 ≤ k → ClOk t false k (TL G) G sg_is_value g_is_value := fun k hk => cl_cold F_is_value hk (PySem.W.mg_of KX NS a_is_value) k_is_value (.all fun us hl => match us, hl with | [_], _ => rfl) (fun p hp => nomatch hp)
  have F_is_row : FnZ t.P t.w t.K t.mg t.base (L2N.CX t.P t.w) 4 f_is_row (PySem.W.fnOf "is_row" "is_row" (defArgs s_is_row) (defBody s_is_row) (defScope s_is_row) .none kV_is_row dc_is_row pm_is_row an_is_row cd_is_row ct_is_row) sg_is_row.ps (spD (TL G) G sg_is_row g_is_row false) := fn_cold (k := 3) T l_is_row c_is_row sc_is_row m_is_row (ok_is_row (C_is_value _ (by omega)))
  have C_is_row : ∀ k, 4 ≤ k → ClOk t false k (TL G) G sg_is_row g_is_row := fun k hk => cl_cold F_is_row hk (PySem.W.mg_of KX NS a_is_row) k_is_row (.all fun us hl => match us, hl with | [_, _], _ => rfl) (fun p hp => nomatch hp)
  have F_is_number : FnZ t.P t.w t.K t.mg t.base (L2N.CX t.P t.w) 3 f_is_number (PySem.W.fnOf "is_number" "is_number" (defArgs s_is_number) (defBody s_is_number) (defScope s_is_number) .none kV_is_number dc_is_number pm_is_number an_is_number cd_is_number ct_is_number) sg_is_number.ps (spD (TL G) G sg_is_number g_is_number false) := fn_cold (k := 2) T l_is_number c_is_number sc_is_number m_is_number (ok_is_number (C_is_integer _ (by omega)))
  have C_is_number : ∀ k, 3 ≤ k → ClOk t false k (TL G) G sg_is_number g_is_number := fun k hk => cl_cold F_is_number hk (PySem.W.mg_of KX NS a_is_number) k_is_number (.all fun us hl => match us, hl with | [_], _ => rfl) (fun p hp => nomatch hp)
  have F_are_rows : FnZ t.P t.w t.K t.mg t.base (L2N.CX t.P t.w) 5 f_are_rows (PySem.W.fnOf "are_rows" "are_rows" (defArgs s_are_rows) (defBody s_are_rows) (defScope s_are_rows) .none kV_are_rows dc_are_rows pm_are_rows an_are_rows cd_are_rows ct_are_rows) sg_are_rows.ps (spD (TL G) G sg_are_rows g_are_rows false) := fn_cold (k := 4) T l_are_rows c_are_rows sc_are_rows m_are_rows (ok_are_rows (C_is_row _ (by omega)) (C_is_number _ (by omega)))
  have C_are_rows : ∀ k, 5 ≤ k → ClOk t false k (TL G) G sg_are_rows g_are_rows := fun k hk => cl_cold F_are_rows hk (PySem.W.mg_of KX NS a_are_rows) k_are_rows (.all fun us hl => match us, hl with | [_, _], _ => rfl) (fun p hp => nomatch hp)
  have C_Rules : ∀ k, 7 ≤ k → ClOk t false k (TL G) G sg_Rules g_Rules := fun k hk => rules_cl (j := 6) ⟨mm_Rules, mi_Rules, mf_Rules, mk_Rules⟩ (fn_rules (k := 5) rfl (C_are_rows 5 (Nat.le_refl _)) ml_Rules mc_Rules ⟨pg_Rules, hd_Rules, po_Rules, ks_Rules⟩ na_Rules_size na_Rules_rows (PySem.W.mg_none_of KX NS z_tuple) (PySem.W.mg_none_of KX NS z_sorted) (PySem.W.mg_none_of KX NS z_set)) hk (PySem.W.mg_of KX NS aK_Rules) (.all fun us hl => match us, hl with | [_, _, _], _ => rfl) (show (if ("Rules" : Str) = "Rules" then some C_Rules else none) = some C_Rules from if_pos rfl) (show flds "Rules" = (["size", "rows"] : List Str) from by decide +kernel)
  have FR__law_same : ∀ n, FnZ t.P t.w t.K t.mg t.base (L2N.CX t.P t.w) (n + 1) f__law_same (PySem.W.fnOf "_law_same" "_law_same" (defArgs s__law_same) (defBody s__law_same) (defScope s__law_same) .none kV__law_same dc__law_same pm__law_same an__law_same cd__law_same ct__law_same) sg__law_same.ps (spD (TL G) G sg__law_same (gr__law_same n) false) := by
    intro n
    induction n with
    | zero => exact ⟨fun vs H Q E h => h.1, fun A outer s H args us vs Q E _ _ _ _ _ h => by
        obtain ⟨_, _, _, _, _, _, _, _, _, q⟩ := h
        exact q.elim⟩
    | succ n ih => exact fn_cold (k := n + 1) T l__law_same c__law_same sc__law_same (m__law_same _) (ok__law_same (cl_cold ih (Nat.le_refl _) (PySem.W.mg_of KX NS a__law_same) k__law_same (.all fun us hl => match us, hl with | [_, _], _ => rfl) (fun p hp => nomatch hp)))
  have C__law_same : ∀ k, 7 ≤ k → ClOk t false k (TL G) G sg__law_same g__law_same := fun k hk => cl_cold (FR__law_same 6) hk (PySem.W.mg_of KX NS a__law_same) k__law_same (.all fun us hl => match us, hl with | [_, _], _ => rfl) (fun p hp => nomatch hp)
  have HR__law_same : ∀ n, L2H.FnH t.P t.w t.K t.mg t.base CX0 (n + 1) f__law_same (PySem.W.fnOf "_law_same" "_law_same" (defArgs s__law_same) (defBody s__law_same) (defScope s__law_same) .none kV__law_same dc__law_same pm__law_same an__law_same cd__law_same ct__law_same) sg__law_same.ps (spD (TL G) G sg__law_same (gr__law_same n) true) := by
    intro n
    induction n with
    | zero => exact ⟨fun vs H Q E h => h.1, fun A outer s H args us vs Q E p _ _ _ _ _ _ h => by
        obtain ⟨_, _, _, _, _, _, _, _, _, q⟩ := h
        exact q.elim⟩
    | succ n ih => exact fn_hot (k := n + 1) T l__law_same c__law_same sc__law_same (mh__law_same _) (okh__law_same (cl_hot ih (Nat.le_refl _) (PySem.W.mg_of KX NS a__law_same) k__law_same (.all fun us hl => match us, hl with | [_, _], _ => rfl)))
  have D__law_same : ∀ k, 7 ≤ k → ClOk t true k (TL G) G sg__law_same g__law_same := fun k hk => cl_hot (HR__law_same 6) hk (PySem.W.mg_of KX NS a__law_same) k__law_same (.all fun us hl => match us, hl with | [_, _], _ => rfl)
  have F_common_divisor : FnZ t.P t.w t.K t.mg t.base (L2N.CX t.P t.w) 2 f_common_divisor (PySem.W.fnOf "common_divisor" "common_divisor" (defArgs s_common_divisor) (defBody s_common_divisor) (defScope s_common_divisor) .none kV_common_divisor dc_common_divisor pm_common_divisor an_common_divisor cd_common_divisor ct_common_divisor) sg_common_divisor.ps (spD (TL G) G sg_common_divisor g_common_divisor false) := fn_cold (k := 1) T l_common_divisor c_common_divisor sc_common_divisor m_common_divisor ok_common_divisor
  have C_common_divisor : ∀ k, 2 ≤ k → ClOk t false k (TL G) G sg_common_divisor g_common_divisor := fun k hk => cl_cold F_common_divisor hk (PySem.W.mg_of KX NS a_common_divisor) k_common_divisor (.all fun us hl => match us, hl with | [_, _], _ => rfl) (fun p hp => nomatch hp)
  have kb_is_share : KB (PySem.W.fnOf "is_share" "is_share" (defArgs s_is_share) (defBody s_is_share) (defScope s_is_share) .none kV_is_share dc_is_share pm_is_share an_is_share cd_is_share ct_is_share) sg_is_share := by
    intro p hp
    replace hp := show p ∈ ([(0, ["value"])] : List (Nat × List Str)) from hp
    simp only [List.mem_cons, List.not_mem_nil, or_false] at hp
    rcases hp with rfl
    · refine ⟨by decide, fun us ws zs h1 h2 h3 => ?_⟩
      match us, ws, h1, h2, h3 with
      | [], [w0], _, _, h3 =>
        obtain rfl : [w0] = zs := Option.some.inj h3
        rfl
  have F_is_share : FnZ t.P t.w t.K t.mg t.base (L2N.CX t.P t.w) 3 f_is_share (PySem.W.fnOf "is_share" "is_share" (defArgs s_is_share) (defBody s_is_share) (defScope s_is_share) .none kV_is_share dc_is_share pm_is_share an_is_share cd_is_share ct_is_share) sg_is_share.ps (spD (TL G) G sg_is_share g_is_share false) := fn_cold (k := 2) T l_is_share c_is_share sc_is_share m_is_share (ok_is_share (C_common_divisor _ (by omega)) (C_is_integer _ (by omega)))
  have C_is_share : ∀ k, 3 ≤ k → ClOk t false k (TL G) G sg_is_share g_is_share := fun k hk => cl_cold F_is_share hk (PySem.W.mg_of KX NS a_is_share) k_is_share (.all fun us hl => match us, hl with | [_], _ => rfl) kb_is_share
  have F__law_up : FnZ t.P t.w t.K t.mg t.base (L2N.CX t.P t.w) 2 f__law_up (PySem.W.fnOf "_law_up" "_law_up" (defArgs s__law_up) (defBody s__law_up) (defScope s__law_up) .none kV__law_up dc__law_up pm__law_up an__law_up cd__law_up ct__law_up) sg__law_up.ps (spD (TL G) G sg__law_up g__law_up false) := fn_cold (k := 1) T l__law_up c__law_up sc__law_up m__law_up ok__law_up
  have C__law_up : ∀ k, 2 ≤ k → ClOk t false k (TL G) G sg__law_up g__law_up := fun k hk => cl_cold F__law_up hk (PySem.W.mg_of KX NS a__law_up) k__law_up (.all fun us hl => match us, hl with | [_], _ => rfl) (fun p hp => nomatch hp)
  have kb_rounded_up : KB (PySem.W.fnOf "rounded_up" "rounded_up" (defArgs s_rounded_up) (defBody s_rounded_up) (defScope s_rounded_up) .none kV_rounded_up dc_rounded_up pm_rounded_up an_rounded_up cd_rounded_up ct_rounded_up) sg_rounded_up := by
    intro p hp
    replace hp := show p ∈ ([(0, ["one"])] : List (Nat × List Str)) from hp
    simp only [List.mem_cons, List.not_mem_nil, or_false] at hp
    rcases hp with rfl
    · refine ⟨by decide, fun us ws zs h1 h2 h3 => ?_⟩
      match us, ws, h1, h2, h3 with
      | [], [w0], _, _, h3 =>
        obtain rfl : [w0] = zs := Option.some.inj h3
        rfl
  have F_rounded_up : FnZ t.P t.w t.K t.mg t.base (L2N.CX t.P t.w) 2 f_rounded_up (PySem.W.fnOf "rounded_up" "rounded_up" (defArgs s_rounded_up) (defBody s_rounded_up) (defScope s_rounded_up) .none kV_rounded_up dc_rounded_up pm_rounded_up an_rounded_up cd_rounded_up ct_rounded_up) sg_rounded_up.ps (spD (TL G) G sg_rounded_up g_rounded_up false) := fn_cold (k := 1) T l_rounded_up c_rounded_up sc_rounded_up m_rounded_up ok_rounded_up
  have C_rounded_up : ∀ k, 2 ≤ k → ClOk t false k (TL G) G sg_rounded_up g_rounded_up := fun k hk => cl_cold F_rounded_up hk (PySem.W.mg_of KX NS a_rounded_up) k_rounded_up (.all fun us hl => match us, hl with | [_], _ => rfl) kb_rounded_up
  have kb_is_below : KB (PySem.W.fnOf "is_below" "is_below" (defArgs s_is_below) (defBody s_is_below) (defScope s_is_below) .none kV_is_below dc_is_below pm_is_below an_is_below cd_is_below ct_is_below) sg_is_below := by
    intro p hp
    replace hp := show p ∈ ([(0, ["other", "one"])] : List (Nat × List Str)) from hp
    simp only [List.mem_cons, List.not_mem_nil, or_false] at hp
    rcases hp with rfl
    · refine ⟨by decide, fun us ws zs h1 h2 h3 => ?_⟩
      match us, ws, h1, h2, h3 with
      | [], [w0, w1], _, _, h3 =>
        obtain rfl : [w1, w0] = zs := Option.some.inj h3
        rfl
  have F_is_below : FnZ t.P t.w t.K t.mg t.base (L2N.CX t.P t.w) 2 f_is_below (PySem.W.fnOf "is_below" "is_below" (defArgs s_is_below) (defBody s_is_below) (defScope s_is_below) .none kV_is_below dc_is_below pm_is_below an_is_below cd_is_below ct_is_below) sg_is_below.ps (spD (TL G) G sg_is_below g_is_below false) := fn_cold (k := 1) T l_is_below c_is_below sc_is_below m_is_below ok_is_below
  have C_is_below : ∀ k, 2 ≤ k → ClOk t false k (TL G) G sg_is_below g_is_below := fun k hk => cl_cold F_is_below hk (PySem.W.mg_of KX NS a_is_below) k_is_below (.all fun us hl => match us, hl with | [_, _], _ => rfl) kb_is_below
  have kb_share_of : KB (PySem.W.fnOf "share_of" "share_of" (defArgs s_share_of) (defBody s_share_of) (defScope s_share_of) .none kV_share_of dc_share_of pm_share_of an_share_of cd_share_of ct_share_of) sg_share_of := by
    intro p hp
    replace hp := show p ∈ ([(0, ["b", "a"])] : List (Nat × List Str)) from hp
    simp only [List.mem_cons, List.not_mem_nil, or_false] at hp
    rcases hp with rfl
    · refine ⟨by decide, fun us ws zs h1 h2 h3 => ?_⟩
      match us, ws, h1, h2, h3 with
      | [], [w0, w1], _, _, h3 =>
        obtain rfl : [w1, w0] = zs := Option.some.inj h3
        rfl
  have F_share_of : FnZ t.P t.w t.K t.mg t.base (L2N.CX t.P t.w) 4 f_share_of (PySem.W.fnOf "share_of" "share_of" (defArgs s_share_of) (defBody s_share_of) (defScope s_share_of) .none kV_share_of dc_share_of pm_share_of an_share_of cd_share_of ct_share_of) sg_share_of.ps (spD (TL G) G sg_share_of g_share_of false) := fn_cold (k := 3) T l_share_of c_share_of sc_share_of m_share_of (ok_share_of (C_common_divisor _ (by omega)) (R_InvalidNumber _ (by omega)))
  have C_share_of : ∀ k, 4 ≤ k → ClOk t false k (TL G) G sg_share_of g_share_of := fun k hk => cl_cold F_share_of hk (PySem.W.mg_of KX NS a_share_of) k_share_of (.all fun us hl => match us, hl with | [_, _], _ => rfl) kb_share_of
  have F_over : FnZ t.P t.w t.K t.mg t.base (L2N.CX t.P t.w) 5 f_over (PySem.W.fnOf "over" "over" (defArgs s_over) (defBody s_over) (defScope s_over) .none kV_over dc_over pm_over an_over cd_over ct_over) sg_over.ps (spD (TL G) G sg_over g_over false) := fn_cold (k := 4) T l_over c_over sc_over m_over (ok_over (C_share_of _ (by omega)) (R_Undefined _ (by omega)))
  have C_over : ∀ k, 5 ≤ k → ClOk t false k (TL G) G sg_over g_over := fun k hk => cl_cold F_over hk (PySem.W.mg_of KX NS a_over) k_over (.all fun us hl => match us, hl with | [_, _], _ => rfl) (fun p hp => nomatch hp)
  have F__law_low : FnZ t.P t.w t.K t.mg t.base (L2N.CX t.P t.w) 2 f__law_low (PySem.W.fnOf "_law_low" "_law_low" (defArgs s__law_low) (defBody s__law_low) (defScope s__law_low) .none kV__law_low dc__law_low pm__law_low an__law_low cd__law_low ct__law_low) sg__law_low.ps (spD (TL G) G sg__law_low g__law_low false) := fn_cold (k := 1) T l__law_low c__law_low sc__law_low m__law_low ok__law_low
  have C__law_low : ∀ k, 2 ≤ k → ClOk t false k (TL G) G sg__law_low g__law_low := fun k hk => cl_cold F__law_low hk (PySem.W.mg_of KX NS a__law_low) k__law_low (.all fun us hl => match us, hl with | [_, _], _ => rfl) (fun p hp => nomatch hp)
  have kb_times : KB (PySem.W.fnOf "times" "times" (defArgs s_times) (defBody s_times) (defScope s_times) .none kV_times dc_times pm_times an_times cd_times ct_times) sg_times := by
    intro p hp
    replace hp := show p ∈ ([(0, ["other", "one"])] : List (Nat × List Str)) from hp
    simp only [List.mem_cons, List.not_mem_nil, or_false] at hp
    rcases hp with rfl
    · refine ⟨by decide, fun us ws zs h1 h2 h3 => ?_⟩
      match us, ws, h1, h2, h3 with
      | [], [w0, w1], _, _, h3 =>
        obtain rfl : [w1, w0] = zs := Option.some.inj h3
        rfl
  have F_times : FnZ t.P t.w t.K t.mg t.base (L2N.CX t.P t.w) 5 f_times (PySem.W.fnOf "times" "times" (defArgs s_times) (defBody s_times) (defScope s_times) .none kV_times dc_times pm_times an_times cd_times ct_times) sg_times.ps (spD (TL G) G sg_times g_times false) := fn_cold (k := 4) T l_times c_times sc_times m_times (ok_times (C_share_of _ (by omega)))
  have C_times : ∀ k, 5 ≤ k → ClOk t false k (TL G) G sg_times g_times := fun k hk => cl_cold F_times hk (PySem.W.mg_of KX NS a_times) k_times (.all fun us hl => match us, hl with | [_, _], _ => rfl) kb_times
  have kb_less : KB (PySem.W.fnOf "less" "less" (defArgs s_less) (defBody s_less) (defScope s_less) .none kV_less dc_less pm_less an_less cd_less ct_less) sg_less := by
    intro p hp
    replace hp := show p ∈ ([(0, ["other", "one"])] : List (Nat × List Str)) from hp
    simp only [List.mem_cons, List.not_mem_nil, or_false] at hp
    rcases hp with rfl
    · refine ⟨by decide, fun us ws zs h1 h2 h3 => ?_⟩
      match us, ws, h1, h2, h3 with
      | [], [w0, w1], _, _, h3 =>
        obtain rfl : [w1, w0] = zs := Option.some.inj h3
        rfl
  have F_less : FnZ t.P t.w t.K t.mg t.base (L2N.CX t.P t.w) 5 f_less (PySem.W.fnOf "less" "less" (defArgs s_less) (defBody s_less) (defScope s_less) .none kV_less dc_less pm_less an_less cd_less ct_less) sg_less.ps (spD (TL G) G sg_less g_less false) := fn_cold (k := 4) T l_less c_less sc_less m_less (ok_less (C_share_of _ (by omega)))
  have C_less : ∀ k, 5 ≤ k → ClOk t false k (TL G) G sg_less g_less := fun k hk => cl_cold F_less hk (PySem.W.mg_of KX NS a_less) k_less (.all fun us hl => match us, hl with | [_, _], _ => rfl) kb_less
  have F__law_sum : FnZ t.P t.w t.K t.mg t.base (L2N.CX t.P t.w) 3 f__law_sum (PySem.W.fnOf "_law_sum" "_law_sum" (defArgs s__law_sum) (defBody s__law_sum) (defScope s__law_sum) .none kV__law_sum dc__law_sum pm__law_sum an__law_sum cd__law_sum ct__law_sum) sg__law_sum.ps (spD (TL G) G sg__law_sum g__law_sum false) := fn_cold (k := 2) T l__law_sum c__law_sum sc__law_sum m__law_sum (ok__law_sum (C__law_low _ (by omega)))
  have C__law_sum : ∀ k, 3 ≤ k → ClOk t false k (TL G) G sg__law_sum g__law_sum := fun k hk => cl_cold F__law_sum hk (PySem.W.mg_of KX NS a__law_sum) k__law_sum (.all fun us hl => match us, hl with | [_, _], _ => rfl) (fun p hp => nomatch hp)
  have F_plus : FnZ t.P t.w t.K t.mg t.base (L2N.CX t.P t.w) 5 f_plus (PySem.W.fnOf "plus" "plus" (defArgs s_plus) (defBody s_plus) (defScope s_plus) .none kV_plus dc_plus pm_plus an_plus cd_plus ct_plus) sg_plus.ps (spD (TL G) G sg_plus g_plus false) := fn_cold (k := 4) T l_plus c_plus sc_plus m_plus (ok_plus (C_share_of _ (by omega)))
  have C_plus : ∀ k, 5 ≤ k → ClOk t false k (TL G) G sg_plus g_plus := fun k hk => cl_cold F_plus hk (PySem.W.mg_of KX NS a_plus) k_plus (.all fun us hl => match us, hl with | [_, _], _ => rfl) (fun p hp => nomatch hp)
  have F__law_pick : FnZ t.P t.w t.K t.mg t.base (L2N.CX t.P t.w) 2 f__law_pick (PySem.W.fnOf "_law_pick" "_law_pick" (defArgs s__law_pick) (defBody s__law_pick) (defScope s__law_pick) .none kV__law_pick dc__law_pick pm__law_pick an__law_pick cd__law_pick ct__law_pick) sg__law_pick.ps (spD (TL G) G sg__law_pick g__law_pick false) := fn_cold (k := 1) T l__law_pick c__law_pick sc__law_pick m__law_pick ok__law_pick
  have C__law_pick : ∀ k, 2 ≤ k → ClOk t false k (TL G) G sg__law_pick g__law_pick := fun k hk => cl_cold F__law_pick hk (PySem.W.mg_of KX NS a__law_pick) k__law_pick (.all fun us hl => match us, hl with | [_, _], _ => rfl) (fun p hp => nomatch hp)
  have F__law_number : FnZ t.P t.w t.K t.mg t.base (L2N.CX t.P t.w) 3 f__law_number (PySem.W.fnOf "_law_number" "_law_number" (defArgs s__law_number) (defBody s__law_number) (defScope s__law_number) .none kV__law_number dc__law_number pm__law_number an__law_number cd__law_number ct__law_number) sg__law_number.ps (spD (TL G) G sg__law_number g__law_number false) := fn_cold (k := 2) T l__law_number c__law_number sc__law_number m__law_number (ok__law_number (C__law_pick _ (by omega)))
  have C__law_number : ∀ k, 3 ≤ k → ClOk t false k (TL G) G sg__law_number g__law_number := fun k hk => cl_cold F__law_number hk (PySem.W.mg_of KX NS a__law_number) k__law_number (.all fun us hl => match us, hl with | [_], _ => rfl) (fun p hp => nomatch hp)
  have F__law_share : FnZ t.P t.w t.K t.mg t.base (L2N.CX t.P t.w) 4 f__law_share (PySem.W.fnOf "_law_share" "_law_share" (defArgs s__law_share) (defBody s__law_share) (defScope s__law_share) .none kV__law_share dc__law_share pm__law_share an__law_share cd__law_share ct__law_share) sg__law_share.ps (spD (TL G) G sg__law_share g__law_share false) := fn_cold (k := 3) T l__law_share c__law_share sc__law_share m__law_share (ok__law_share (C__law_low _ (by omega)) (C__law_number _ (by omega)))
  have C__law_share : ∀ k, 4 ≤ k → ClOk t false k (TL G) G sg__law_share g__law_share := fun k hk => cl_cold F__law_share hk (PySem.W.mg_of KX NS a__law_share) k__law_share (.all fun us hl => match us, hl with | [_], _ => rfl) (fun p hp => nomatch hp)
  have F__law_second : FnZ t.P t.w t.K t.mg t.base (L2N.CX t.P t.w) 5 f__law_second (PySem.W.fnOf "_law_second" "_law_second" (defArgs s__law_second) (defBody s__law_second) (defScope s__law_second) .none kV__law_second dc__law_second pm__law_second an__law_second cd__law_second ct__law_second) sg__law_second.ps (spD (TL G) G sg__law_second g__law_second false) := fn_cold (k := 4) T l__law_second c__law_second sc__law_second m__law_second (ok__law_second (C__law_low _ (by omega)) (C__law_share _ (by omega)) (C__law_pick _ (by omega)))
  have C__law_second : ∀ k, 5 ≤ k → ClOk t false k (TL G) G sg__law_second g__law_second := fun k hk => cl_cold F__law_second hk (PySem.W.mg_of KX NS a__law_second) k__law_second (.all fun us hl => match us, hl with | [_, _], _ => rfl) (fun p hp => nomatch hp)
  have F__law_chain_right : FnZ t.P t.w t.K t.mg t.base (L2N.CX t.P t.w) 9 f__law_chain_right (PySem.W.fnOf "_law_chain_right" "_law_chain_right" (defArgs s__law_chain_right) (defBody s__law_chain_right) (defScope s__law_chain_right) .none kV__law_chain_right dc__law_chain_right pm__law_chain_right an__law_chain_right cd__law_chain_right ct__law_chain_right) sg__law_chain_right.ps (spD (TL G) G sg__law_chain_right g__law_chain_right false) := fn_cold (k := 8) T l__law_chain_right c__law_chain_right sc__law_chain_right m__law_chain_right (ok__law_chain_right (C__law_same _ (by omega)) (C_is_share _ (by omega)) (C__law_up _ (by omega)) (C_rounded_up _ (by omega)) (C_is_below _ (by omega)) (C_over _ (by omega)) (C__law_low _ (by omega)) (C_times _ (by omega)) (C_less _ (by omega)) (C__law_sum _ (by omega)) (C_plus _ (by omega)) (C__law_pick _ (by omega)) (C__law_second _ (by omega)))
  have C__law_chain_right : ∀ k, 9 ≤ k → ClOk t false k (TL G) G sg__law_chain_right g__law_chain_right := fun k hk => cl_cold F__law_chain_right hk (PySem.W.mg_of KX NS a__law_chain_right) k__law_chain_right (.all fun us hl => match us, hl with | [_, _], _ => rfl) (fun p hp => nomatch hp)
  have kb_total_of : KB (PySem.W.fnOf "total_of" "total_of" (defArgs s_total_of) (defBody s_total_of) (defScope s_total_of) .none kV_total_of dc_total_of pm_total_of an_total_of cd_total_of ct_total_of) sg_total_of := by
    intro p hp
    replace hp := show p ∈ ([(0, ["shares"])] : List (Nat × List Str)) from hp
    simp only [List.mem_cons, List.not_mem_nil, or_false] at hp
    rcases hp with rfl
    · refine ⟨by decide, fun us ws zs h1 h2 h3 => ?_⟩
      match us, ws, h1, h2, h3 with
      | [], [w0], _, _, h3 =>
        obtain rfl : [w0] = zs := Option.some.inj h3
        rfl
  have F_total_of : FnZ t.P t.w t.K t.mg t.base (L2N.CX t.P t.w) 6 f_total_of (PySem.W.fnOf "total_of" "total_of" (defArgs s_total_of) (defBody s_total_of) (defScope s_total_of) .none kV_total_of dc_total_of pm_total_of an_total_of cd_total_of ct_total_of) sg_total_of.ps (spD (TL G) G sg_total_of g_total_of false) := fn_cold (k := 5) T l_total_of c_total_of sc_total_of m_total_of (ok_total_of (C_plus _ (by omega)))
  have C_total_of : ∀ k, 6 ≤ k → ClOk t false k (TL G) G sg_total_of g_total_of := fun k hk => cl_cold F_total_of hk (PySem.W.mg_of KX NS a_total_of) k_total_of (.all fun us hl => match us, hl with | [_], _ => rfl) kb_total_of
  have F__law_total_right : FnZ t.P t.w t.K t.mg t.base (L2N.CX t.P t.w) 9 f__law_total_right (PySem.W.fnOf "_law_total_right" "_law_total_right" (defArgs s__law_total_right) (defBody s__law_total_right) (defScope s__law_total_right) .none kV__law_total_right dc__law_total_right pm__law_total_right an__law_total_right cd__law_total_right ct__law_total_right) sg__law_total_right.ps (spD (TL G) G sg__law_total_right g__law_total_right false) := fn_cold (k := 8) T l__law_total_right c__law_total_right sc__law_total_right m__law_total_right (ok__law_total_right (C__law_same _ (by omega)) (C_total_of _ (by omega)) (C__law_sum _ (by omega)))
  have C__law_total_right : ∀ k, 9 ≤ k → ClOk t false k (TL G) G sg__law_total_right g__law_total_right := fun k hk => cl_cold F__law_total_right hk (PySem.W.mg_of KX NS a__law_total_right) k__law_total_right (.all fun us hl => match us, hl with | [_], _ => rfl) (fun p hp => nomatch hp)
  have F__law_is_share : FnZ t.P t.w t.K t.mg t.base (L2N.CX t.P t.w) 3 f__law_is_share (PySem.W.fnOf "_law_is_share" "_law_is_share" (defArgs s__law_is_share) (defBody s__law_is_share) (defScope s__law_is_share) .none kV__law_is_share dc__law_is_share pm__law_is_share an__law_is_share cd__law_is_share ct__law_is_share) sg__law_is_share.ps (spD (TL G) G sg__law_is_share g__law_is_share false) := fn_cold (k := 2) T l__law_is_share c__law_is_share sc__law_is_share m__law_is_share (ok__law_is_share (C__law_low _ (by omega)))
  have C__law_is_share : ∀ k, 3 ≤ k → ClOk t false k (TL G) G sg__law_is_share g__law_is_share := fun k hk => cl_cold F__law_is_share hk (PySem.W.mg_of KX NS a__law_is_share) k__law_is_share (.all fun us hl => match us, hl with | [_], _ => rfl) (fun p hp => nomatch hp)
  have F__law_values_right : FnZ t.P t.w t.K t.mg t.base (L2N.CX t.P t.w) 9 f__law_values_right (PySem.W.fnOf "_law_values_right" "_law_values_right" (defArgs s__law_values_right) (defBody s__law_values_right) (defScope s__law_values_right) .none kV__law_values_right dc__law_values_right pm__law_values_right an__law_values_right cd__law_values_right ct__law_values_right) sg__law_values_right.ps (spD (TL G) G sg__law_values_right g__law_values_right false) := fn_cold (k := 8) T l__law_values_right c__law_values_right sc__law_values_right m__law_values_right (ok__law_values_right (C__law_same _ (by omega)) (C_is_share _ (by omega)) (C__law_is_share _ (by omega)) (C_Rules _ (by omega)))
  have C__law_values_right : ∀ k, 9 ≤ k → ClOk t false k (TL G) G sg__law_values_right g__law_values_right := fun k hk => cl_cold F__law_values_right hk (PySem.W.mg_of KX NS a__law_values_right) k__law_values_right (.all fun us hl => match us, hl with | [_], _ => rfl) (fun p hp => nomatch hp)
  have F__law_bottom_refused : FnZ t.P t.w t.K t.mg t.base (L2N.CX t.P t.w) 9 f__law_bottom_refused (PySem.W.fnOf "_law_bottom_refused" "_law_bottom_refused" (defArgs s__law_bottom_refused) (defBody s__law_bottom_refused) (defScope s__law_bottom_refused) .none kV__law_bottom_refused dc__law_bottom_refused pm__law_bottom_refused an__law_bottom_refused cd__law_bottom_refused ct__law_bottom_refused) sg__law_bottom_refused.ps (spD (TL G) G sg__law_bottom_refused g__law_bottom_refused false) := fn_cold (k := 8) T l__law_bottom_refused c__law_bottom_refused sc__law_bottom_refused m__law_bottom_refused (ok__law_bottom_refused (C_share_of _ (by omega)) (D__law_same _ (by omega)) ⟨_, PySem.W.mg_of KX NS aC_InvalidNumber, y_InvalidNumber⟩)
  have C__law_bottom_refused : ∀ k, 9 ≤ k → ClOk t false k (TL G) G sg__law_bottom_refused g__law_bottom_refused := fun k hk => cl_cold F__law_bottom_refused hk (PySem.W.mg_of KX NS a__law_bottom_refused) k__law_bottom_refused (.all fun us hl => match us, hl with | [_], _ => rfl) (fun p hp => nomatch hp)
  have F__law_made_right : FnZ t.P t.w t.K t.mg t.base (L2N.CX t.P t.w) 10 f__law_made_right (PySem.W.fnOf "_law_made_right" "_law_made_right" (defArgs s__law_made_right) (defBody s__law_made_right) (defScope s__law_made_right) .none kV__law_made_right dc__law_made_right pm__law_made_right an__law_made_right cd__law_made_right ct__law_made_right) sg__law_made_right.ps (spD (TL G) G sg__law_made_right g__law_made_right false) := fn_cold (k := 9) T l__law_made_right c__law_made_right sc__law_made_right m__law_made_right (ok__law_made_right (C__law_bottom_refused _ (by omega)) (C__law_number _ (by omega)) (C__law_same _ (by omega)) (C_share_of _ (by omega)) (C__law_low _ (by omega)))
  have C__law_made_right : ∀ k, 10 ≤ k → ClOk t false k (TL G) G sg__law_made_right g__law_made_right := fun k hk => cl_cold F__law_made_right hk (PySem.W.mg_of KX NS a__law_made_right) k__law_made_right (.all fun us hl => match us, hl with | [_], _ => rfl) (fun p hp => nomatch hp)
  have F__law_nought_refused : FnZ t.P t.w t.K t.mg t.base (L2N.CX t.P t.w) 9 f__law_nought_refused (PySem.W.fnOf "_law_nought_refused" "_law_nought_refused" (defArgs s__law_nought_refused) (defBody s__law_nought_refused) (defScope s__law_nought_refused) .none kV__law_nought_refused dc__law_nought_refused pm__law_nought_refused an__law_nought_refused cd__law_nought_refused ct__law_nought_refused) sg__law_nought_refused.ps (spD (TL G) G sg__law_nought_refused g__law_nought_refused false) := fn_cold (k := 8) T l__law_nought_refused c__law_nought_refused sc__law_nought_refused m__law_nought_refused (ok__law_nought_refused (C_over _ (by omega)) (D__law_same _ (by omega)) ⟨_, PySem.W.mg_of KX NS aC_Undefined, y_Undefined⟩)
  have C__law_nought_refused : ∀ k, 9 ≤ k → ClOk t false k (TL G) G sg__law_nought_refused g__law_nought_refused := fun k hk => cl_cold F__law_nought_refused hk (PySem.W.mg_of KX NS a__law_nought_refused) k__law_nought_refused (.all fun us hl => match us, hl with | [_, _], _ => rfl) (fun p hp => nomatch hp)
  have F__law_pair_right : FnZ t.P t.w t.K t.mg t.base (L2N.CX t.P t.w) 10 f__law_pair_right (PySem.W.fnOf "_law_pair_right" "_law_pair_right" (defArgs s__law_pair_right) (defBody s__law_pair_right) (defScope s__law_pair_right) .none kV__law_pair_right dc__law_pair_right pm__law_pair_right an__law_pair_right cd__law_pair_right ct__law_pair_right) sg__law_pair_right.ps (spD (TL G) G sg__law_pair_right g__law_pair_right false) := fn_cold (k := 9) T l__law_pair_right c__law_pair_right sc__law_pair_right m__law_pair_right (ok__law_pair_right (C__law_same _ (by omega)) (C__law_low _ (by omega)) (C_over _ (by omega)) (C__law_nought_refused _ (by omega)) (C__law_up _ (by omega)) (C_rounded_up _ (by omega)) (C_less _ (by omega)) (C_is_below _ (by omega)) (C_times _ (by omega)) (C__law_sum _ (by omega)) (C_plus _ (by omega)))
  have C__law_pair_right : ∀ k, 10 ≤ k → ClOk t false k (TL G) G sg__law_pair_right g__law_pair_right := fun k hk => cl_cold F__law_pair_right hk (PySem.W.mg_of KX NS a__law_pair_right) k__law_pair_right (.all fun us hl => match us, hl with | [_, _], _ => rfl) (fun p hp => nomatch hp)
  have F__law_hand : FnZ t.P t.w t.K t.mg t.base (L2N.CX t.P t.w) 2 f__law_hand (PySem.W.fnOf "_law_hand" "_law_hand" (defArgs s__law_hand) (defBody s__law_hand) (defScope s__law_hand) .none kV__law_hand dc__law_hand pm__law_hand an__law_hand cd__law_hand ct__law_hand) sg__law_hand.ps (spD (TL G) G sg__law_hand g0__law_hand false) := fn_cold (k := 1) T l__law_hand c__law_hand sc__law_hand m__law_hand ok__law_hand
  have C__law_hand : ∀ k, 2 ≤ k → ClOk t false k (TL G) G sg__law_hand g__law_hand := fun k hk => cl_cold (F__law_hand.imp spD_jar) hk (PySem.W.mg_of KX NS a__law_hand) k__law_hand (.all fun us hl => match us, hl with | [_], _ => rfl) (fun p hp => nomatch hp)
  have F__law_all : FnZ t.P t.w t.K t.mg t.base (L2N.CX t.P t.w) 11 f__law_all (PySem.W.fnOf "_law_all" "_law_all" (defArgs s__law_all) (defBody s__law_all) (defScope s__law_all) .none kV__law_all dc__law_all pm__law_all an__law_all cd__law_all ct__law_all) sg__law_all.ps (spD (TL G) G sg__law_all g__law_all false) := fn_cold (k := 10) T l__law_all c__law_all sc__law_all m__law_all (ok__law_all (C__law_chain_right _ (by omega)) (C__law_total_right _ (by omega)) (C__law_pick _ (by omega)) (C__law_values_right _ (by omega)) (C__law_made_right _ (by omega)) (C__law_pair_right _ (by omega)) (C__law_second _ (by omega)) (C__law_share _ (by omega)) (C__law_hand _ (by omega)))
  have C__law_all : ∀ k, 11 ≤ k → ClOk t false k (TL G) G sg__law_all g__law_all := fun k hk => cl_cold F__law_all hk (PySem.W.mg_of KX NS a__law_all) k__law_all (.all fun us hl => match us, hl with | [_], _ => rfl) (fun p hp => nomatch hp)
  have F_law : FnZ t.P t.w t.K t.mg t.base (L2N.CX t.P t.w) 12 fa (PySem.W.fnOf "law" "law" (defArgs s_law) (defBody s_law) (defScope s_law) .none kV_law dc_law pm_law an_law cd_law ct_law) sg_law.ps (spD (TL G) G sg_law g_law false) := fn_cold (k := 11) T l_law c_law sc_law m_law (ok_law (C__law_all _ (by omega)) ⟨_, PySem.W.mg_of KX NS aC_GuessError, y_GuessError⟩)
  exact ⟨F_law.len, fun A outer s H args us vs Q E hr => F_law.run A outer s H args us vs Q E (hr.mono (by decide))⟩
end K00
open PySem PySem.W PyProof.Rows in
set_option maxRecDepth 100000 in
set_option maxHeartbeats 0 in
theorem PySem.Challenge.cw_learnrealm_k00_shares_reckoned_holds : PySem.Challenge.rw_learnrealm_k00_shares_reckoned.Holds := by
  w_on; o_law; k_head; (case hw => w_witness2)
  k_fill
  refine DL.walk_ofZ (l := PySem.Challenge.rw_learnrealm_k00_shares_reckoned) (n := 63) (k := 60) (x := "script") (CX := fun w => L2N.CX (PySem.Challenge.rw_learnrealm_k00_shares_reckoned).prog w) rfl (by decide) rfl ⟨rfl, by decide, by decide⟩ (fun w h Y => PySem.W.kIn_of Y) ?F ?E
  case F =>
    intro w mg fa h KX NS hmg
    refine' K00.all_mk KX NS hmg ?a_is_integer ?l_is_integer ?c_is_integer ?k_is_integer ?a_is_value ?l_is_value ?c_is_value ?k_is_value ?a_is_row ?l_is_row ?c_is_row ?k_is_row ?a_is_number ?l_is_number ?c_is_number ?k_is_number ?a_are_rows ?l_are_rows ?c_are_rows ?k_are_rows ?a__law_same ?l__law_same ?c__law_same ?k__law_same ?a_common_divisor ?l_common_divisor ?c_common_divisor ?k_common_divisor ?a_is_share ?l_is_share ?c_is_share ?k_is_share ?a__law_up ?l__law_up ?c__law_up ?k__law_up ?a_rounded_up ?l_rounded_up ?c_rounded_up ?k_rounded_up ?a_is_below ?l_is_below ?c_is_below ?k_is_below ?a_share_of ?l_share_of ?c_share_of ?k_share_of ?a_over ?l_over ?c_over ?k_over ?a__law_low ?l__law_low ?c__law_low ?k__law_low ?a_times ?l_times ?c_times ?k_times ?a_less ?l_less ?c_less ?k_less ?a__law_sum ?l__law_sum ?c__law_sum ?k__law_sum ?a_plus ?l_plus ?c_plus ?k_plus ?a__law_pick ?l__law_pick ?c__law_pick ?k__law_pick ?a__law_number ?l__law_number ?c__law_number ?k__law_number ?a__law_share ?l__law_share ?c__law_share ?k__law_share ?a__law_second ?l__law_second ?c__law_second ?k__law_second ?a__law_chain_right ?l__law_chain_right ?c__law_chain_right ?k__law_chain_right ?a_total_of ?l_total_of ?c_total_of ?k_total_of ?a__law_total_right ?l__law_total_right ?c__law_total_right ?k__law_total_right ?a__law_is_share ?l__law_is_share ?c__law_is_share ?k__law_is_share ?a__law_values_right ?l__law_values_right ?c__law_values_right ?k__law_values_right ?a__law_bottom_refused ?l__law_bottom_refused ?c__law_bottom_refused ?k__law_bottom_refused ?a__law_made_right ?l__law_made_right ?c__law_made_right ?k__law_made_right ?a__law_nought_refused ?l__law_nought_refused ?c__law_nought_refused ?k__law_nought_refused ?a__law_pair_right ?l__law_pair_right ?c__law_pair_right ?k__law_pair_right ?a__law_hand ?l__law_hand ?c__law_hand ?k__law_hand ?a__law_all ?l__law_all ?c__law_all ?k__law_all ?a_law ?l_law ?c_law ?k_law ?aC_InvalidNumber ?xL_InvalidNumber ?xb_InvalidNumber ?sa_InvalidNumber ?eC_InvalidNumber ?tC_InvalidNumber ?kC_InvalidNumber ?iC_InvalidNumber ?tI_InvalidNumber ?li_InvalidNumber ?ci_InvalidNumber ?no_InvalidNumber ?ga_InvalidNumber ?gg_InvalidNumber ?hC_InvalidNumber ?aC_Undefined ?xL_Undefined ?xb_Undefined ?sa_Undefined ?eC_Undefined ?tC_Undefined ?kC_Undefined ?iC_Undefined ?tI_Undefined ?li_Undefined ?ci_Undefined ?no_Undefined ?ga_Undefined ?gg_Undefined ?hC_Undefined ?is_InvalidNumber ?is_Undefined ?aC_GuessError ?eC_GuessError ?tC_GuessError ?is_GuessError ?ex_InvalidNumber_InvalidNumber ?ex_Undefined_InvalidNumber ?ex_InvalidNumber_Undefined ?ex_Undefined_Undefined ?ex_InvalidNumber_GuessError ?ex_Undefined_GuessError ?aK_Rules ?pg_Rules ?hd_Rules ?po_Rules ?ks_Rules ?na_Rules_size ?na_Rules_rows ?isa_Rules ?isg_Rules ?ist_Rules ?ism_Rules ?isb_Rules_int ?isb_Rules_bool ?isb_Rules_str ?isb_Rules_tuple ?isb_Rules_list ?mm_Rules ?mi_Rules ?mf_Rules ?mk_Rules ?ml_Rules ?mc_Rules ?z_set ?z_sorted ?z_len ?z_abs ?z_int ?z_max ?z_min ?z_tuple ?z_list ?z_range ?z_isinstance ?z_bool ?z_str ?z_repr ?hlaw
    (case a_is_integer => k_is)
    (case l_is_integer => k_is)
    (case c_is_integer => k_is)
    (case k_is_integer => k_is)
    (case a_is_value => k_is)
    (case l_is_value => k_is)
    (case c_is_value => k_is)
    (case k_is_value => k_is)
    (case a_is_row => k_is)
    (case l_is_row => k_is)
    (case c_is_row => k_is)
    (case k_is_row => k_is)
    (case a_is_number => k_is)
    (case l_is_number => k_is)
    (case c_is_number => k_is)
    (case k_is_number => k_is)
    (case a_are_rows => k_is)
    (case l_are_rows => k_is)
    (case c_are_rows => k_is)
    (case k_are_rows => k_is)
    (case a__law_same => k_is)
    (case l__law_same => k_is)
    (case c__law_same => k_is)
    (case k__law_same => k_is)
    (case a_common_divisor => k_is)
    (case l_common_divisor => k_is)
    (case c_common_divisor => k_is)
    (case k_common_divisor => k_is)
    (case a_is_share => k_is)
    (case l_is_share => k_is)
    (case c_is_share => k_is)
    (case k_is_share => k_is)
    (case a__law_up => k_is)
    (case l__law_up => k_is)
    (case c__law_up => k_is)
    (case k__law_up => k_is)
    (case a_rounded_up => k_is)
    (case l_rounded_up => k_is)
    (case c_rounded_up => k_is)
    (case k_rounded_up => k_is)
    (case a_is_below => k_is)
    (case l_is_below => k_is)
    (case c_is_below => k_is)
    (case k_is_below => k_is)
    (case a_share_of => k_is)
    (case l_share_of => k_is)
    (case c_share_of => k_is)
    (case k_share_of => k_is)
    (case a_over => k_is)
    (case l_over => k_is)
    (case c_over => k_is)
    (case k_over => k_is)
    (case a__law_low => k_is)
    (case l__law_low => k_is)
    (case c__law_low => k_is)
    (case k__law_low => k_is)
    (case a_times => k_is)
    (case l_times => k_is)
    (case c_times => k_is)
    (case k_times => k_is)
    (case a_less => k_is)
    (case l_less => k_is)
    (case c_less => k_is)
    (case k_less => k_is)
    (case a__law_sum => k_is)
    (case l__law_sum => k_is)
    (case c__law_sum => k_is)
    (case k__law_sum => k_is)
    (case a_plus => k_is)
    (case l_plus => k_is)
    (case c_plus => k_is)
    (case k_plus => k_is)
    (case a__law_pick => k_is)
    (case l__law_pick => k_is)
    (case c__law_pick => k_is)
    (case k__law_pick => k_is)
    (case a__law_number => k_is)
    (case l__law_number => k_is)
    (case c__law_number => k_is)
    (case k__law_number => k_is)
    (case a__law_share => k_is)
    (case l__law_share => k_is)
    (case c__law_share => k_is)
    (case k__law_share => k_is)
    (case a__law_second => k_is)
    (case l__law_second => k_is)
    (case c__law_second => k_is)
    (case k__law_second => k_is)
    (case a__law_chain_right => k_is)
    (case l__law_chain_right => k_is)
    (case c__law_chain_right => k_is)
    (case k__law_chain_right => k_is)
    (case a_total_of => k_is)
    (case l_total_of => k_is)
    (case c_total_of => k_is)
    (case k_total_of => k_is)
    (case a__law_total_right => k_is)
    (case l__law_total_right => k_is)
    (case c__law_total_right => k_is)
    (case k__law_total_right => k_is)
    (case a__law_is_share => k_is)
    (case l__law_is_share => k_is)
    (case c__law_is_share => k_is)
    (case k__law_is_share => k_is)
    (case a__law_values_right => k_is)
    (case l__law_values_right => k_is)
    (case c__law_values_right => k_is)
    (case k__law_values_right => k_is)
    (case a__law_bottom_refused => k_is)
    (case l__law_bottom_refused => k_is)
    (case c__law_bottom_refused => k_is)
    (case k__law_bottom_refused => k_is)
    (case a__law_made_right => k_is)
    (case l__law_made_right => k_is)
    (case c__law_made_right => k_is)
    (case k__law_made_right => k_is)
    (case a__law_nought_refused => k_is)
    (case l__law_nought_refused => k_is)
    (case c__law_nought_refused => k_is)
    (case k__law_nought_refused => k_is)
    (case a__law_pair_right => k_is)
    (case l__law_pair_right => k_is)
    (case c__law_pair_right => k_is)
    (case k__law_pair_right => k_is)
    (case a__law_hand => k_is)
    (case l__law_hand => k_is)
    (case c__law_hand => k_is)
    (case k__law_hand => k_is)
    (case a__law_all => k_is)
    (case l__law_all => k_is)
    (case c__law_all => k_is)
    (case k__law_all => k_is)
    (case a_law => k_is)
    (case l_law => k_is)
    (case c_law => k_is)
    (case k_law => k_is)
    (case aC_InvalidNumber => k_is)
    (case xL_InvalidNumber => k_is)
    (case xb_InvalidNumber => first | decide +kernel | k_is)
    (case sa_InvalidNumber => k_is)
    (case eC_InvalidNumber => k_is)
    (case tC_InvalidNumber => k_is)
    (case kC_InvalidNumber => k_is)
    (case iC_InvalidNumber => k_is)
    (case tI_InvalidNumber => k_is)
    (case li_InvalidNumber => k_is)
    (case ci_InvalidNumber => k_is)
    (case no_InvalidNumber => k_is)
    (case ga_InvalidNumber => k_is)
    (case gg_InvalidNumber => k_is)
    (case hC_InvalidNumber => k_is)
    (case aC_Undefined => k_is)
    (case xL_Undefined => k_is)
    (case xb_Undefined => first | decide +kernel | k_is)
    (case sa_Undefined => k_is)
    (case eC_Undefined => k_is)
    (case tC_Undefined => k_is)
    (case kC_Undefined => k_is)
    (case iC_Undefined => k_is)
    (case tI_Undefined => k_is)
    (case li_Undefined => k_is)
    (case ci_Undefined => k_is)
    (case no_Undefined => k_is)
    (case ga_Undefined => k_is)
    (case gg_Undefined => k_is)
    (case hC_Undefined => k_is)
    (case is_InvalidNumber => k_is)
    (case is_Undefined => k_is)
    (case aC_GuessError => k_is)
    (case eC_GuessError => k_is)
    (case tC_GuessError => k_is)
    (case is_GuessError => k_is)
    (case ex_InvalidNumber_InvalidNumber => first | rfl | k_is)
    (case ex_Undefined_InvalidNumber => first | rfl | k_is)
    (case ex_InvalidNumber_Undefined => first | rfl | k_is)
    (case ex_Undefined_Undefined => first | rfl | k_is)
    (case ex_InvalidNumber_GuessError => first | rfl | k_is)
    (case ex_Undefined_GuessError => first | rfl | k_is)
    (case aK_Rules => k_is)
    (case pg_Rules => k_is)
    (case hd_Rules => k_is)
    (case po_Rules => k_is)
    (case ks_Rules => k_is)
    (case na_Rules_size => k_is)
    (case na_Rules_rows => k_is)
    (case isa_Rules => k_is)
    (case isg_Rules => k_is)
    (case ist_Rules => k_is)
    (case ism_Rules => k_is)
    (case isb_Rules_int => k_is)
    (case isb_Rules_bool => k_is)
    (case isb_Rules_str => k_is)
    (case isb_Rules_tuple => k_is)
    (case isb_Rules_list => k_is)
    (case mm_Rules => k_is)
    (case mi_Rules => k_is)
    (case mf_Rules => k_is)
    (case mk_Rules => k_is)
    (case ml_Rules => k_is)
    (case mc_Rules => k_is)
    (case z_set => k_is)
    (case z_sorted => k_is)
    (case z_len => k_is)
    (case z_abs => k_is)
    (case z_int => k_is)
    (case z_max => k_is)
    (case z_min => k_is)
    (case z_tuple => k_is)
    (case z_list => k_is)
    (case z_range => k_is)
    (case z_isinstance => k_is)
    (case z_bool => k_is)
    (case z_str => k_is)
    (case z_repr => k_is)
    (case hlaw => exact K00.law_true)
  case E =>
    intro w H s e s' z
    obtain ⟨a, B, H', cls, d, h1, h2, h3, h4, h5, h6, h7, q⟩ := z
    exact q


import PyProof.Rows.All
import Wide.All
import OpenK.AllK
import Wide.FinOn
import PySem.Challenge.RW_kerbside_k11_histories
import PySem.Syntax
import HandS.ForMost
import HandS.Exc
import HandS.TryOnly
import HandS.TryMany
import HandS.ExcOwn
import HandS.WordsExc
import HandS.CallSlots
import HandS.ExcIs
import HandS.Wide
import HandS.TupAny
import HandS.Style
import HandS.Deep
import HandS.Walk
import HandS.Zip
import HandS.IsInst
import HandS.TupMul
set_option linter.all false
set_option autoImplicit false
/-! EvA: data, a small syntax, and its evaluator. No heap: lists are values; a list that one slot owns may change. -/
namespace EV
open PySem (Str Operator CmpOp)

/-- the longest list or text -/
abbrev line : Nat := 16777216

inductive D where
  | non | bl (b : Bool) | int (i : Int) | str (s : Str) | tup (xs : List D) | lst (xs : List D)
  /-- the script -/
  | scr (xs : List D)
  deriving Inhabited

/-- what an expression gives: data; a new list that nobody else holds; a list that a slot owns -/
inductive R where
  | val (d : D) | own (xs : List D) | bor (xs : List D)
/-- what a slot holds -/
inductive S where
  | emp | val (d : D) | own (xs : List D) | exc (c : Nat)
inductive M (α : Type) where
  | ok (a : α) | ex (c : Nat) | bad
namespace M
variable {α β : Type}
@[inline] def bind (m : M α) (f : α → M β) : M β := match m with
  | .ok a => f a
  | .ex c => .ex c
  | .bad => .bad
instance : Monad M where
  pure := .ok
  bind := bind
@[simp] theorem bind_ok (a : α) (f : α → M β) : (M.ok a >>= f) = f a := rfl
@[simp] theorem bind_ex (c : Nat) (f : α → M β) : (M.ex c >>= f) = M.ex c := rfl
@[simp] theorem bind_bad (f : α → M β) : ((M.bad : M α) >>= f) = M.bad := rfl
@[simp] theorem pure_ok (a : α) : (pure a : M α) = .ok a := rfl
end M

/-! ### equality, as == has it -/
mutual
def eqD : D → D → Bool
  | .non, .non => true
  | .bl a, .bl b => a == b
  | .bl a, .int j => (if a then 1 else 0) == j
  | .int i, .bl b => i == (if b then 1 else 0)
  | .int i, .int j => i == j
  | .str x, .str y => x == y
  | .lst xs, .lst ys => eqDs xs ys
  | .tup xs, .tup ys => eqDs xs ys
  | _, _ => false
def eqDs : List D → List D → Bool
  | [], [] => true
  | x :: xs, y :: ys => eqD x y && eqDs xs ys
  | _, _ => false
end
def strOk (x : Str) : Bool := x.cps.all (· < 0x110000)
/-- data of at most n storeys -/
def wf : Nat → D → Bool
  | _, .non => true
  | _, .bl _ => true
  | _, .int _ => true
  | _, .str s => strOk s
  | 0, .tup _ => false
  | 0, .lst _ => false
  | _, .scr _ => false
  | n + 1, .tup xs => xs.all (wf n)
  | n + 1, .lst xs => xs.all (wf n)

/-! ### operators -/
/-- what a reader sees -/
def R.view : R → D
  | .val d => d
  | .own xs => .lst xs
  | .bor xs => .lst xs
/-- the value that is handed on: a new list is held from then on by many -/
def R.fix : R → M D
  | .val d => .ok d
  | .own xs => .ok (.lst xs)
  | .bor _ => .bad
/-- a slot's end, or any start of a slice -/
def sIx (n d : Nat) : Option Int → Nat
  | none => d
  | some v => if v < 0 then (v + (n : Int)).toNat else min v.toNat n
def cut {α : Type} (xs : List α) (lo hi : Option Int) : List α := (xs.drop (sIx xs.length 0 lo)).take (sIx xs.length xs.length hi - sIx xs.length 0 lo)
def ixN (n : Nat) (i : Int) : Option Nat := if 0 ≤ i then (if i < n then some i.toNat else none) else if -(n : Int) ≤ i then some (i + n).toNat else none
def atI {α : Type} (xs : List α) (i : Int) : Option α := (ixN xs.length i).bind fun j => xs[j]?
def M.ofO {α : Type} : Option α → M α
  | some a => .ok a
  | none => .bad
def guardM {α : Type} (c : Bool) (m : M α) : M α := if c then m else .bad

def opD : Operator → D → D → M R
  | .Add, .int i, .int j => .ok (.val (.int (i + j)))
  | .Add, .int i, .bl b => .ok (.val (.int (i + if b then 1 else 0)))
  | .Add, .str a, .str b => guardM (decide (a.length + b.length ≤ line)) (.ok (.val (.str (a ++ b))))
  | .Add, .lst a, .lst b => guardM (decide (a.length + b.length ≤ line)) (.ok (.own (a ++ b)))
  | .Add, .tup a, .tup b => guardM (decide (a.length + b.length ≤ line)) (.ok (.val (.tup (a ++ b))))
  | .Sub, .int i, .int j => .ok (.val (.int (i - j)))
  | .Mult, .int i, .int j => guardM (decide (i.natAbs.log2 + j.natAbs.log2 < 1000000)) (.ok (.val (.int (i * j))))
  | .Mult, .lst a, .int k => guardM (decide (k < 4611686018427387904) && decide (-4611686018427387904 < k) && decide (a.length * k.toNat ≤ line)) (.ok (.own (List.replicate k.toNat a).flatten))
  | .Mult, .tup a, .int k => guardM (decide (0 ≤ k) && decide (k ≤ 1000) && decide (a.length ≤ 1000) && decide (a.length ≠ 0)) (.ok (.val (.tup (List.replicate k.toNat a).flatten)))
  | .FloorDiv, .int i, .int j => guardM (decide (0 < j) && decide (j.natAbs.log2 < 9000)) (.ok (.val (.int (i / j))))
  | .Mod, .int i, .int j => guardM (decide (0 < j)) (.ok (.val (.int (i % j))))
  | .Pow, .int i, .int j => guardM (decide (0 ≤ j) && decide (j ≤ 1000000) && decide (i.natAbs < 2 ^ 64)) (.ok (.val (.int (i ^ j.toNat))))
  | _, _, _ => .bad

/-- the wish of both sides that deep comparisons have -/
def deepM (d e : D) (b : Bool) : M R := guardM (wf 60 d && wf 60 e) (.ok (.val (.bl b)))
def occurs (i j : List Nat) : Bool := (List.range (j.length + 1)).any fun k => (j.drop k).take i.length == i

def cmpD : CmpOp → D → D → M R
  | .Eq, d, e => deepM d e (eqD d e)
  | .NotEq, d, e => deepM d e (!eqD d e)
  | .Lt, .int i, .int j => .ok (.val (.bl (decide (i < j))))
  | .LtE, .int i, .int j => .ok (.val (.bl (decide (i ≤ j))))
  | .Gt, .int i, .int j => .ok (.val (.bl (decide (j < i))))
  | .GtE, .int i, .int j => .ok (.val (.bl (decide (j ≤ i))))
  | .Is, .bl a, .bl b => .ok (.val (.bl (decide (a = b))))
  | .Is, d, .non => .ok (.val (.bl (match d with | .non => true | _ => false)))
  | .IsNot, .bl a, .bl b => .ok (.val (.bl (!decide (a = b))))
  | .IsNot, d, .non => .ok (.val (.bl (match d with | .non => false | _ => true)))
  | .In, d, .lst xs => deepM d (.lst xs) (xs.any fun z => eqD z d)
  | .NotIn, d, .lst xs => deepM d (.lst xs) (!xs.any fun z => eqD z d)
  | .In, d, .tup xs => deepM d (.tup xs) (xs.any fun z => eqD z d)
  | .NotIn, d, .tup xs => deepM d (.tup xs) (!xs.any fun z => eqD z d)
  | _, _, _ => .bad

def ixD : D → D → M R
  | .lst xs, .int i => (M.ofO (atI xs i)).bind fun d => .ok (.val d)
  | .scr xs, .int i => (M.ofO (atI xs i)).bind fun d => .ok (.val d)
  | .tup xs, .int i => (M.ofO (atI xs i)).bind fun d => .ok (.val d)
  | .str z, .int i => guardM (decide (z.length ≤ line)) ((M.ofO (atI z.cps.toList i)).bind fun c => .ok (.val (.str ⟨#[c]⟩)))
  | _, _ => .bad
def slD : D → Option Int → Option Int → M R
  | .lst xs, lo, hi => .ok (.own (cut xs lo hi))
  | .scr xs, lo, hi => .ok (.own (cut xs lo hi))
  | .tup xs, lo, hi => .ok (.val (.tup (cut xs lo hi)))
  | .str z, lo, hi => guardM (decide (z.length ≤ line)) (.ok (.val (.str ⟨(cut z.cps.toList lo hi).toArray⟩)))
  | _, _, _ => .bad

/-- built-in functions -/
inductive B where
  | len | abs | int | max2 | min2 | sum | all | any | tuple | list | str
  deriving DecidableEq
def boolsOf : List D → Option (List Bool)
  | [] => some []
  | .bl b :: r => (boolsOf r).map (b :: ·)
  | _ :: _ => none
def intsOf : List D → Option (List Int)
  | [] => some []
  | .int b :: r => (intsOf r).map (b :: ·)
  | _ :: _ => none
def bltD : B → List D → M R
  | .len, [.lst xs] => .ok (.val (.int xs.length))
  | .len, [.scr xs] => .ok (.val (.int xs.length))
  | .len, [.tup xs] => .ok (.val (.int xs.length))
  | .len, [.str z] => guardM (decide (z.length ≤ line)) (.ok (.val (.int z.length)))
  | .abs, [.int i] => .ok (.val (.int (if i < 0 then -i else i)))
  | .int, [.int i] => .ok (.val (.int i))
  | .int, [.bl b] => .ok (.val (.int (if b then 1 else 0)))
  | .max2, [.int i, .int j] => .ok (.val (.int (if j > i then j else i)))
  | .min2, [.int i, .int j] => .ok (.val (.int (if j < i then j else i)))
  | .sum, [.lst xs] => (M.ofO (intsOf xs)).bind fun ns => .ok (.val (.int ns.sum))
  | .all, [.lst xs] => (M.ofO (boolsOf xs)).bind fun bs => .ok (.val (.bl (bs.all id)))
  | .any, [.lst xs] => (M.ofO (boolsOf xs)).bind fun bs => .ok (.val (.bl (bs.any id)))
  | .tuple, [.lst xs] => .ok (.val (.tup xs))
  | .tuple, [.tup xs] => .ok (.val (.tup xs))
  | .list, [.lst xs] => .ok (.own xs)
  | .list, [.tup xs] => .ok (.own xs)
  | .str, [.int i] => guardM (decide (i.natAbs.log2 < 1920)) (.ok (.val (.str (Str.ofString (toString i)))))
  | _, _ => .bad
/-- the types of isinstance -/
inductive Ty where | int | bool | tuple | list | str
  deriving DecidableEq
def isTy : Ty → D → Bool
  | .int, .int _ => true
  | .int, .bl _ => true
  | .bool, .bl _ => true
  | .tuple, .tup _ => true
  | .list, .lst _ => true
  | .list, .scr _ => true
  | .str, .str _ => true
  | _, _ => false

/-! ### syntax -/
inductive Tg where | nm (i : Nat) | tup (ts : List Tg)
mutual
inductive E where
  | var (i : Nat)
  | k (d : D)
  | gl (x : String) (d : D)
  | tup (es : List E) | lst (es : List E)
  | op (o : Operator) (a b : E)
  | neg (a : E) | not (a : E)
  | cmp (o : CmpOp) (a b : E)
  | chain (o p : CmpOp) (a b c : E)
  | and (a b : E) | or (a b : E)
  | one (a : E)
  | ite (c a b : E)
  | call (f : Nat) (es : List E)
  | blt (f : B) (es : List E)
  | ix (a i : E)
  | sl (a : E) (lo hi : Option E)
  | isi (a : E) (t : Ty)
  | isx (i : Nat) (cs : List Nat)
  | lc (vs : List Nat) (tg : Tg) (it : I) (c : Option E) (e : E)
inductive I where
  | seq (e : E) | rng (es : List E) | enum (e : E) | zip (a b : E)
end
inductive T where
  | pass
  | frz (i : Nat)
  | asg (tg : Tg) (e : E)
  | par (is : List Nat) (es : List E)
  | setix (i : Nat) (ix e : E)
  | aug (i : Nat) (o : Operator) (e : E)
  | app (i : Nat) (e : E)
  | exp (e : E)
  | ret (e : E)
  | retN
  | iff (c : E) (a b : List T)
  | whl (c : E) (b : List T)
  | forr (tg : Tg) (it : I) (b : List T)
  | brk | cnt
  | rais (c : Nat)
  | tr (b : List T) (hs : List (List Nat × Option Nat × List T))
/-- the functions, by their numbers -/
abbrev Env := Nat → Option (List D → M R)
/-- what is known of the classes of errors: c is a part of k -/
abbrev Sub := Nat → Nat → Option Bool
/-- c is one of them, or a part of one -/
def anyO (sub : Sub) (c : Nat) : List Nat → Option Bool
  | [] => some false
  | k :: ks => match sub c k with
    | none => none
    | some true => some true
    | some false => anyO sub c ks

/-! ### evaluation -/
mutual
def asg : Tg → D → List S → Option (List S)
  | .nm i, d, ss => if i < ss.length then some (ss.set i (.val d)) else none
  | .tup ts, .tup ds, ss => asgs ts ds ss
  | .tup ts, .lst ds, ss => asgs ts ds ss
  | .tup _, _, _ => none
def asgs : List Tg → List D → List S → Option (List S)
  | [], [], ss => some ss
  | t :: ts, d :: ds, ss => (asg t d ss).bind fun ss' => asgs ts ds ss'
  | _, _, _ => none
end
def wipe (ss : List S) : List Nat → List S
  | [] => ss
  | v :: vs => (wipe ss vs).set v .emp
/-- the items of a comprehension -/
def lcL (f : D → M (Option D)) : List D → M (List D)
  | [] => .ok []
  | x :: r => (f x).bind fun o => (lcL f r).bind fun ys => .ok (match o with | some y => y :: ys | none => ys)
/-- a call of a def that is there -/
def callG (o : Option (List D → M R)) (m : M (List D)) : M R := match o with
  | some g => m.bind g
  | none => .bad
def lcI (o : Option (List S)) (k : List S → M (Option D)) : M (Option D) := match o with
  | some s => k s
  | none => .bad
def asBool : R → M Bool
  | .val (.bl b) => .ok b
  | _ => .bad
def asInt : R → M Int
  | .val (.int b) => .ok b
  | _ => .bad
/-- nothing may be raised within -/
def M.calm {α : Type} : M α → M α
  | .ok a => .ok a
  | _ => .bad
def rngL (lo hi : Int) : List D := (List.range (hi - lo).toNat).map fun (i : Nat) => .int (lo + i)
def small (i : Int) : Bool := decide (-4611686018427387904 ≤ i) && decide (i < 4611686018427387904)
def enumL : Nat → List D → List D
  | _, [] => []
  | i, x :: r => .tup [.int i, x] :: enumL (i + 1) r
def zipL (xs ys : List D) : List D := List.zipWith (fun x y => .tup [x, y]) xs ys
def bltN : B → Bool
  | _ => true
section
variable (G : Env) (sub : Sub)
mutual
def evE : E → List S → M R
  | .var i, ss => match ss[i]? with
    | some (.val d) => .ok (.val d)
    | some (.own xs) => .ok (.bor xs)
    | _ => .bad
  | .k d, _ => .ok (.val d)
  | .gl _ d, _ => .ok (.val d)
  | .tup es, ss => (evF es ss).bind fun ds => guardM (decide (ds.length ≤ line)) (.ok (.val (.tup ds)))
  | .lst es, ss => (evF es ss).bind fun ds => guardM (decide (ds.length ≤ line)) (.ok (.own ds))
  | .op o a b, ss => (evE a ss).bind fun x => (evE b ss).bind fun y => opD o x.view y.view
  | .neg a, ss => (evE a ss).bind fun x => (asInt x).bind fun i => .ok (.val (.int (-i)))
  | .not a, ss => (evE a ss).bind fun x => (asBool x).bind fun b => .ok (.val (.bl (!b)))
  | .cmp o a b, ss => (evE a ss).bind fun x => (evE b ss).bind fun y => cmpD o x.view y.view
  | .chain o p a b c, ss => (evE a ss).bind fun x => (evE b ss).bind fun y => (cmpD o x.view y.view).bind fun z => (asBool z).bind fun t =>
      if t then (evE c ss).bind fun w => cmpD p y.view w.view else .ok (.val (.bl false))
  | .and a b, ss => (evE a ss).bind fun x => (asBool x).bind fun t => if t then evE b ss else .ok (.val (.bl false))
  | .or a b, ss => (evE a ss).bind fun x => (asBool x).bind fun t => if t then .ok (.val (.bl true)) else evE b ss
  | .one a, ss => evE a ss
  | .ite c a b, ss => (evE c ss).bind fun x => (asBool x).bind fun t => if t then evE a ss else evE b ss
  | .call f es, ss => callG (G f) (evF es ss)
  | .blt f es, ss => (evs es ss).bind fun rs => bltD f (rs.map R.view)
  | .ix a i, ss => (evE a ss).bind fun x => (evE i ss).bind fun y => ixD x.view y.view
  | .sl a lo hi, ss => (evE a ss).bind fun x => (evO lo ss).bind fun l => (evO hi ss).bind fun h => slD x.view l h
  | .isi a t, ss => (evE a ss).bind fun x => .ok (.val (.bl (isTy t x.view)))
  | .isx i cs, ss => match ss[i]? with
    | some (.exc c) => (match anyO sub c cs with
      | some b => .ok (.val (.bl b))
      | none => .bad)
    | _ => .bad
  | .lc vs tg it c e, ss => (evI it ss).bind fun ds => guardM (decide (ds.length ≤ line)) ((M.calm (lcL (fun d => lcI (asg tg d (wipe ss vs)) fun ss' => (evC c ss').bind fun b => if b then (evE e ss').bind fun r => (r.fix).bind fun y => .ok (some y) else .ok none) ds)).bind fun ys => .ok (.own ys))
def evC : Option E → List S → M Bool
  | none, _ => .ok true
  | some c, ss => (evE c ss).bind asBool
def evO : Option E → List S → M (Option Int)
  | none, _ => .ok none
  | some c, ss => (evE c ss).bind fun x => (asInt x).bind fun i => .ok (some i)
def evs : List E → List S → M (List R)
  | [], _ => .ok []
  | e :: es, ss => (evE e ss).bind fun x => (evs es ss).bind fun xs => .ok (x :: xs)
def evF : List E → List S → M (List D)
  | [], _ => .ok []
  | e :: es, ss => (evE e ss).bind fun r => (r.fix).bind fun x => (evF es ss).bind fun xs => .ok (x :: xs)
def evI : I → List S → M (List D)
  | .seq e, ss => (evE e ss).bind fun x => match x.view with
    | .lst xs => .ok xs
    | .scr xs => .ok xs
    | .tup xs => .ok xs
    | _ => .bad
  | .rng es, ss => (evF es ss).bind fun ds => match ds with
    | [.int j] => guardM (small j) (.ok (rngL 0 j))
    | [.int i, .int j] => guardM (small i && small j) (.ok (rngL i j))
    | _ => .bad
  | .enum e, ss => (evE e ss).bind fun x => match x.view with
    | .lst xs => .ok (enumL 0 xs)
    | _ => .bad
  | .zip a b, ss => (evE a ss).bind fun x => (evE b ss).bind fun y => match x.view, y.view with
    | .lst xs, .lst ys => .ok (zipL xs ys)
    | .tup xs, .tup ys => .ok (zipL xs ys)
    | _, _ => .bad
end
/-- how a statement ends -/
inductive F where
  | nx (ss : List S) | rt (r : R) | bk (ss : List S) | ct (ss : List S) | ex (c : Nat) (ss : List S) | bad
/-- an expression's value goes on -/
def M.f {α : Type} (m : M α) (ss : List S) (k : α → F) : F := match m with
  | .ok a => k a
  | .ex c => .ex c ss
  | .bad => .bad
def F.ofO (o : Option (List S)) : F := match o with
  | some ss => .nx ss
  | none => .bad
def putR (i : Nat) (r : R) (ss : List S) : F := if i < ss.length then (match r with
  | .val d => .nx (ss.set i (.val d))
  | .own xs => .nx (ss.set i (.own xs))
  | .bor _ => .bad) else .bad
def setN (i : Nat) (xs : List D) (d : D) (o : Option Nat) (ss : List S) : F := match o with
  | some n => .nx (ss.set i (.own (xs.set n d)))
  | none => .bad
def asgR (tg : Tg) (r : R) (ss : List S) : F := match tg with
  | .nm i => putR i r ss
  | .tup ts => (r.fix).f ss fun d => .ofO (asg (.tup ts) d ss)
def setAll : List Nat → List D → List S → Option (List S)
  | [], [], ss => some ss
  | i :: is, d :: ds, ss => if i < ss.length then (setAll is ds ss).map fun s' => s'.set i (.val d) else none
  | _, _, _ => none
def retS (o : Option S) : F := match o with
  | some (.val d) => .rt (.val d)
  | some (.own xs) => .rt (.own xs)
  | _ => .bad
def rtR (r : R) : F := match r with
  | .bor _ => .bad
  | r => .rt r
def ownS (o : Option S) (k : List D → F) : F := match o with
  | some (.own xs) => k xs
  | _ => .bad
def intS (o : Option S) (k : Int → F) : F := match o with
  | some (.val (.int x)) => k x
  | _ => .bad
def intR (r : R) (k : Int → F) : F := match r with
  | .val (.int y) => k y
  | _ => .bad
def retR (e : E) (ss : List S) : F := match e with
  | .var i => retS ss[i]?
  | e => (evE G sub e ss).f ss rtR
def whileN (c : List S → M Bool) (b : List S → F) : Nat → List S → F
  | 0, _ => .bad
  | n + 1, ss => (c ss).f ss fun t => if t then (match b ss with
    | .nx s' => whileN c b n s'
    | .ct s' => whileN c b n s'
    | .bk s' => .nx s'
    | r => r) else .nx ss
def forL (g : D → List S → Option (List S)) (b : List S → F) : List D → List S → F
  | [], ss => .nx ss
  | x :: r, ss => match g x ss with
    | none => .bad
    | some s1 => (match b s1 with
      | .nx s' => forL g b r s'
      | .ct s' => forL g b r s'
      | .bk s' => .nx s'
      | z => z)
def frzS (i : Nat) (ss : List S) : F := match ss[i]? with
  | some (.own xs) => .nx (ss.set i (.val (.lst xs)))
  | some _ => .nx ss
  | none => .bad
/-- the iterable of a for must stand still -/
def calmE (e : E) (ss : List S) : Bool := match evE G sub e ss with
  | .ok (.bor _) => false
  | _ => true
def calmI : I → List S → Bool
  | .seq e, ss => calmE G sub e ss
  | .rng _, _ => true
  | .enum e, ss => calmE G sub e ss
  | .zip a b, ss => calmE G sub a ss && calmE G sub b ss
variable (fuel : Nat)
mutual
def evT : T → List S → F
  | .pass, ss => .nx ss
  | .frz i, ss => frzS i ss
  | .asg tg e, ss => (evE G sub e ss).f ss fun r => asgR tg r ss
  | .par is es, ss => (evF G sub es ss).f ss fun ds => .ofO (setAll is ds ss)
  | .setix i ix e, ss => (evE G sub e ss).f ss fun r => (r.fix).f ss fun d => ownS ss[i]? fun xs => (evE G sub ix ss).f ss fun x => (asInt x).f ss fun j => setN i xs d (ixN xs.length j) ss
  | .aug i o e, ss => intS ss[i]? fun x => (evE G sub e ss).f ss fun r => intR r fun y => (opD o (.int x) (.int y)).f ss fun z => putR i z ss
  | .app i e, ss => ownS ss[i]? fun xs => (evE G sub e ss).f ss fun r => (r.fix).f ss fun d => if xs.length < line then .nx (ss.set i (.own (xs ++ [d]))) else .bad
  | .exp e, ss => (evE G sub e ss).f ss fun _ => .nx ss
  | .ret e, ss => retR G sub e ss
  | .retN, ss => .rt (.val .non)
  | .iff c a b, ss => ((evE G sub c ss).bind asBool).f ss fun t => if t then evTs a ss else evTs b ss
  | .whl c b, ss => whileN (fun s => (evE G sub c s).bind asBool) (evTs b) fuel ss
  | .forr tg it b, ss => if calmI G sub it ss then (evI G sub it ss).f ss fun ds => forL (asg tg) (evTs b) ds ss else .bad
  | .brk, ss => .bk ss
  | .cnt, ss => .ct ss
  | .rais c, ss => .ex c ss
  | .tr b hs, ss => match evTs b ss with
    | .ex c s' => evHs hs c s'
    | r => r
def evTs : List T → List S → F
  | [], ss => .nx ss
  | t :: ts, ss => match evT t ss with
    | .nx s' => evTs ts s'
    | r => r
def evHs : List (List Nat × Option Nat × List T) → Nat → List S → F
  | [], c, ss => .ex c ss
  | (ks, o, b) :: r, c, ss => match anyO sub c ks with
    | none => .bad
    | some true => (match o with
      | none => (match evTs b ss with
        | .ex _ _ => .bad
        | z => z)
      | some i => if i < ss.length then (match evTs b (ss.set i (.exc c)) with
        | .nx s' => .nx (s'.set i .emp)
        | .bk s' => .bk (s'.set i .emp)
        | .ct s' => .ct (s'.set i .emp)
        | .rt z => .rt z
        | _ => .bad) else .bad)
    | some false => evHs r c ss
end
/-- a def: its number of parameters, of slots, its body -/
structure Fn where
  ar : Nat
  sl : Nat
  body : List T
def startS (n : Nat) (ds : List D) : List S := ds.map S.val ++ List.replicate (n - ds.length) .emp
def Fn.run (f : Fn) (ds : List D) : M R := if ds.length = f.ar then (match evTs G sub fuel f.body (startS f.sl ds) with
  | .nx _ => .ok (.val .non)
  | .rt (.bor _) => .bad
  | .rt r => .ok r
  | .ex c _ => .ex c
  | _ => .bad) else .bad
end
/-! ### a whole text -/
/-- a def of the text: its number, its name, its parameters, its slots, its body as the evaluator has it, where it stands -/
structure Def where
  id : Nat
  name : Str
  ps : List Str
  N : List Str
  body : List T
def Def.fn (d : Def) : Fn := ⟨d.ps.length, d.N.length, d.body⟩
/-- the defs, the last one first; each sees those behind it -/
def envOf (sub : Sub) (fuel : Nat) : List Def → Env
  | [] => fun _ => none
  | d :: ds => fun f => if f = d.id then some (d.fn.run (envOf sub fuel ds) sub fuel) else envOf sub fuel ds f
end EV

set_option Elab.async false
set_option linter.all false
set_option autoImplicit false
set_option maxRecDepth 100000
set_option maxHeartbeats 2000000
/-! EvB1: how the evaluator's data stand in the abstract heap. -/
namespace EV
open PySem PySem.Spec PyProof.Rows L2

theorem line_eq : (line : Nat) = sizeLine := by rw [sizeLine_eq]
theorem Same.seqT {K : PySem.W.Frag} {H H' : Hp} {a : Addr} {xs : List V} (e : Same H H') (h : SqT K H a xs) : SqT K H' a xs := by
  rcases h with (h | ⟨o, h⟩) | h
  · exact .inl (.inl (e _ _ h))
  · exact .inl (.inr ⟨o, e _ _ h⟩)
  · exact .inr h
theorem same_upd {H : Hp} {p : Addr} {o : HO} (h : H p = none) : Same H (upd H p o) := fun b x e => by
  rw [upd_ne (ne_of_none e h)]; exact e
theorem upd_mono {F H : Hp} (h : Same F H) (p : Addr) (o : HO) : Same (upd F p o) (upd H p o) := fun b x e => by
  by_cases q : b = p
  · subst q; rw [upd_same] at e ⊢; exact e
  · rw [upd_ne q] at e ⊢; exact h _ _ e

section
variable (K : PySem.W.Frag)
mutual
/-- d stands in the frozen heap as v -/
def Rep (F : Hp) : D → V → Prop
  | .non, v => v = .non
  | .bl b, v => v = .bl b
  | .int i, v => v = .int i
  | .str s, v => v = .str s
  | .tup xs, v => ∃ a vs, v = .ref a ∧ SqT K F a vs ∧ Reps F xs vs
  | .lst xs, v => ∃ a vs, v = .ref a ∧ F a = some (.lst vs) ∧ Reps F xs vs
  | .scr xs, v => ∃ a vs, v = .ref a ∧ SqL K F a vs ∧ Reps F xs vs
def Reps (F : Hp) : List D → List V → Prop
  | [], vs => vs = []
  | x :: xs, vs => ∃ v r, vs = v :: r ∧ Rep F x v ∧ Reps F xs r
end
/-- what a reader sees of d -/
def View (F H : Hp) : D → V → Prop
  | .lst xs, v => ∃ a vs, v = .ref a ∧ H a = some (.lst vs) ∧ Reps K F xs vs
  | d, v => Rep K F d v
/-- an expression's end; H: ahead of it -/
def RepR (H F' H' : Hp) : R → V → Prop
  | .val d, v => Rep K F' d v
  | .own xs, v => ∃ a vs, v = .ref a ∧ H' a = some (.lst vs) ∧ F' a = none ∧ H a = none ∧ Reps K F' xs vs
  | .bor xs, v => ∃ a vs, v = .ref a ∧ H' a = some (.lst vs) ∧ Reps K F' xs vs
/-- heaps grow -/
structure Ext (F H F' H' : Hp) : Prop where
  sh : Same H H'
  sf : Same F F'
  new : ∀ a o, F a = none → H a = some o → F' a = none
  sub : Same F' H'
end
section
variable {K : PySem.W.Frag} {F F' F1 F2 H H' H1 H2 : Hp}
mutual
theorem Rep.mono (s : Same F F') : ∀ (d : D) (v : V), Rep K F d v → Rep K F' d v
  | .non, _, h => h
  | .bl _, _, h => h
  | .int _, _, h => h
  | .str _, _, h => h
  | .tup xs, v, h => by
    unfold Rep at h ⊢
    obtain ⟨a, vs, e, q, r⟩ := h
    exact ⟨a, vs, e, Same.seqT s q, Reps.mono s xs vs r⟩
  | .lst xs, v, h => by
    unfold Rep at h ⊢
    obtain ⟨a, vs, e, q, r⟩ := h
    exact ⟨a, vs, e, s _ _ q, Reps.mono s xs vs r⟩
  | .scr xs, v, h => by
    unfold Rep at h ⊢
    obtain ⟨a, vs, e, q, r⟩ := h
    exact ⟨a, vs, e, s.seq q, Reps.mono s xs vs r⟩
theorem Reps.mono (s : Same F F') : ∀ (ds : List D) (vs : List V), Reps K F ds vs → Reps K F' ds vs
  | [], _, h => by unfold Reps at h ⊢; exact h
  | d :: ds, vs, h => by
    unfold Reps at h ⊢
    obtain ⟨v, r, e, a, b⟩ := h
    exact ⟨v, r, e, Rep.mono s d v a, Reps.mono s ds r b⟩
end
theorem Reps.nil : Reps K F [] [] := by unfold Reps; rfl
theorem Reps.cons {d : D} {ds : List D} {v : V} {vs : List V} (h : Rep K F d v) (t : Reps K F ds vs) : Reps K F (d :: ds) (v :: vs) := by unfold Reps; exact ⟨v, vs, rfl, h, t⟩
theorem Reps.length : ∀ {ds : List D} {vs : List V}, Reps K F ds vs → ds.length = vs.length
  | [], vs, h => by unfold Reps at h; subst h; rfl
  | d :: ds, vs, h => by
    unfold Reps at h
    obtain ⟨v, r, e, a, b⟩ := h
    subst e
    simp [Reps.length b]
theorem Reps.get : ∀ {ds : List D} {vs : List V} {i : Nat} {d : D}, Reps K F ds vs → ds[i]? = some d → ∃ v, vs[i]? = some v ∧ Rep K F d v
  | [], _, _, _, _, e => by simp at e
  | d :: ds, vs, 0, x, h, e => by
    unfold Reps at h
    obtain ⟨v, r, rfl, a, b⟩ := h
    simp at e; subst e
    exact ⟨v, rfl, a⟩
  | d :: ds, vs, i + 1, x, h, e => by
    unfold Reps at h
    obtain ⟨v, r, rfl, a, b⟩ := h
    simp at e
    obtain ⟨w, h1, h2⟩ := Reps.get b e
    exact ⟨w, by simpa using h1, h2⟩
theorem Reps.append : ∀ {ds es : List D} {vs ws : List V}, Reps K F ds vs → Reps K F es ws → Reps K F (ds ++ es) (vs ++ ws)
  | [], _, vs, _, h, t => by unfold Reps at h; subst h; exact t
  | d :: ds, es, vs, ws, h, t => by
    unfold Reps at h
    obtain ⟨v, r, rfl, a, b⟩ := h
    exact Reps.cons a (Reps.append b t)
theorem Reps.take : ∀ {ds : List D} {vs : List V} (n : Nat), Reps K F ds vs → Reps K F (ds.take n) (vs.take n)
  | _, _, 0, _ => Reps.nil
  | [], vs, n + 1, h => by unfold Reps at h; subst h; exact Reps.nil
  | d :: ds, vs, n + 1, h => by
    unfold Reps at h
    obtain ⟨v, r, rfl, a, b⟩ := h
    exact Reps.cons a (Reps.take n b)
theorem Reps.drop : ∀ {ds : List D} {vs : List V} (n : Nat), Reps K F ds vs → Reps K F (ds.drop n) (vs.drop n)
  | _, _, 0, h => h
  | [], vs, n + 1, h => by unfold Reps at h; subst h; exact Reps.nil
  | d :: ds, vs, n + 1, h => by
    unfold Reps at h
    obtain ⟨v, r, rfl, a, b⟩ := h
    exact Reps.drop n b
theorem Reps.set : ∀ {ds : List D} {vs : List V} {d : D} {v : V} (n : Nat), Reps K F ds vs → Rep K F d v → Reps K F (ds.set n d) (vs.set n v)
  | [], vs, _, _, n, h, _ => by unfold Reps at h; subst h; exact Reps.nil
  | d :: ds, vs, _, _, 0, h, q => by
    unfold Reps at h
    obtain ⟨v, r, rfl, a, b⟩ := h
    exact Reps.cons q b
  | d :: ds, vs, _, _, n + 1, h, q => by
    unfold Reps at h
    obtain ⟨v, r, rfl, a, b⟩ := h
    exact Reps.cons a (Reps.set n b q)
theorem Reps.rep {ds : List D} {vs : List V} (h : Reps K F ds vs) : ∀ k : Nat, Reps K F (List.replicate k ds).flatten (List.replicate k vs).flatten
  | 0 => by simpa using Reps.nil
  | k + 1 => by
    rw [List.replicate_succ, List.replicate_succ, List.flatten_cons, List.flatten_cons]
    exact Reps.append h (Reps.rep h k)
theorem Ext.refl (s : Same F H) : Ext F H F H := ⟨Same.refl _, Same.refl _, fun _ _ h _ => h, s⟩
theorem Ext.trans (a : Ext F H F1 H1) (b : Ext F1 H1 F2 H2) : Ext F H F2 H2 :=
  ⟨a.sh.trans b.sh, a.sf.trans b.sf, fun x o h1 h2 => b.new x o (a.new x o h1 h2) (a.sh x o h2), b.sub⟩
/-- a new tuple -/
theorem Ext.tup (s : Same F H) {p : Addr} (h : H p = none) (vs : List V) : Ext F H (upd F p (.tup vs)) (upd H p (.tup vs)) := by
  have hf : F p = none := by
    cases q : F p with
    | none => rfl
    | some o => rw [s p o q] at h; cases h
  refine ⟨same_upd h, same_upd hf, fun a o h1 h2 => ?_, upd_mono s _ _⟩
  rw [upd_ne (ne_of_none h2 h)]; exact h1
/-- a new list that is owned -/
theorem Ext.new1 (s : Same F H) {p : Addr} (h : H p = none) (o : HO) : Ext F H F (upd H p o) :=
  ⟨same_upd h, Same.refl _, fun _ _ h1 _ => h1, s.trans (same_upd h)⟩
theorem Rep.view (s : Same F H) : ∀ {d : D} {v : V}, Rep K F d v → View K F H d v
  | .non, _, h => h
  | .bl _, _, h => h
  | .int _, _, h => h
  | .str _, _, h => h
  | .tup xs, v, h => h
  | .scr xs, v, h => h
  | .lst xs, v, h => by
    unfold Rep at h
    obtain ⟨a, vs, e, q, r⟩ := h
    exact ⟨a, vs, e, s _ _ q, r⟩
theorem RepR.view (s : Same F' H') : ∀ {r : R} {v : V}, RepR K H F' H' r v → View K F' H' r.view v
  | .val d, v, h => Rep.view s h
  | .own xs, v, ⟨a, vs, e, q, _, _, r⟩ => ⟨a, vs, e, q, r⟩
  | .bor xs, v, ⟨a, vs, e, q, r⟩ => ⟨a, vs, e, q, r⟩
theorem View.mono (sf : Same F F') (sh : Same H H') : ∀ {d : D} {v : V}, View K F H d v → View K F' H' d v
  | .non, _, h => h
  | .bl _, _, h => h
  | .int _, _, h => h
  | .str _, _, h => h
  | .tup xs, v, h => Rep.mono sf (.tup xs) v h
  | .scr xs, v, h => Rep.mono sf (.scr xs) v h
  | .lst xs, v, ⟨a, vs, e, q, r⟩ => ⟨a, vs, e, sh _ _ q, Reps.mono sf _ _ r⟩
theorem View.tup {xs : List D} {v : V} (h : View K F H (.tup xs) v) (s : Same F H) : ∃ a vs, v = .ref a ∧ SqT K H a vs ∧ Reps K F xs vs := by
  have h' : Rep K F (.tup xs) v := h
  unfold Rep at h'
  obtain ⟨a, vs, e, q, r⟩ := h'
  exact ⟨a, vs, e, Same.seqT s q, r⟩
theorem RepR.ext {H0 : Hp} (e : Ext F H F' H') : ∀ {r : R} {v : V}, RepR K H0 F H r v → RepR K H0 F' H' r v
  | .val d, v, h => Rep.mono e.sf d v h
  | .own xs, v, ⟨a, vs, e1, q, q2, q3, r⟩ => ⟨a, vs, e1, e.sh _ _ q, e.new _ _ q2 q, q3, Reps.mono e.sf _ _ r⟩
  | .bor xs, v, ⟨a, vs, e1, q, r⟩ => ⟨a, vs, e1, e.sh _ _ q, Reps.mono e.sf _ _ r⟩
theorem RepR.back {H0 : Hp} (s : Same H0 H) : ∀ {r : R} {v : V}, RepR K H F' H' r v → RepR K H0 F' H' r v
  | .val d, v, h => h
  | .own xs, v, ⟨a, vs, e1, q, q2, q3, r⟩ => ⟨a, vs, e1, q, q2, s.free q3, r⟩
  | .bor xs, v, h => h
/-- the value is handed on -/
theorem RepR.fix {r : R} {d : D} {v : V} (h : RepR K H F' H' r v) (sub : Same F' H') (e : r.fix = .ok d) : ∃ F2, Same F' F2 ∧ Same F2 H' ∧ (∀ a, F' a = none → H a ≠ none → F2 a = none) ∧ Rep K F2 d v := by
  cases r with
  | val x =>
    have : x = d := by simpa [R.fix] using e
    subst this
    exact ⟨F', Same.refl _, sub, fun _ z _ => z, h⟩
  | bor xs => simp [R.fix] at e
  | own xs =>
    have : D.lst xs = d := by simpa [R.fix] using e
    subst this
    obtain ⟨a, vs, rfl, q, q2, q3, r⟩ := h
    refine ⟨upd F' a (.lst vs), same_upd q2, fun b o z => ?_, fun b z nz => ?_, ?_⟩
    · by_cases hb : b = a
      · subst hb; rw [upd_same] at z; rw [q]; exact z
      · rw [upd_ne hb] at z; exact sub _ _ z
    · have hb : b ≠ a := fun y => nz (by rw [y]; exact q3)
      rw [upd_ne hb]; exact z
    · unfold Rep
      exact ⟨a, vs, rfl, upd_same, Reps.mono (same_upd q2) _ _ r⟩
theorem RepR.fixE {F H : Hp} {r : R} {d : D} {v : V} (x : Ext F H F' H') (h : RepR K H F' H' r v) (e : r.fix = .ok d) : ∃ F2, Ext F H F2 H' ∧ Rep K F2 d v ∧ Same F' F2 := by
  obtain ⟨F2, s1, s2, s3, r2⟩ := h.fix x.sub e
  exact ⟨F2, ⟨x.sh, x.sf.trans s1, fun a o h1 h2 => s3 a (x.new a o h1 h2) (by rw [h2]; simp), s2⟩, r2, s1⟩
end

/-! ### slots -/
/-- what stays through a def: its start; the classes of errors; the error that a suite holds -/
structure Z0 where
  F0 : Hp
  H0 : Hp
  cls : Nat → Value
  hx : Option (Addr × Nat × Nat)
structure Rel (K : PySem.W.Frag) (Z : Z0) (F : Hp) (ss : List S) (σ : L2.St) (H : Hp) : Prop where
  ext : Ext Z.F0 Z.H0 F H
  len : ss.length = σ.length
  val : ∀ (i : Nat) d, ss[i]? = some (.val d) → ∃ v, σ[i]? = some (some v) ∧ Rep K F d v
  own : ∀ (i : Nat) xs, ss[i]? = some (.own xs) → ∃ a vs, σ[i]? = some (some (.ref a)) ∧ H a = some (.lst vs) ∧ F a = none ∧ Z.H0 a = none ∧ Reps K F xs vs
  dis : ∀ (i j : Nat) xs ys a, i ≠ j → ss[i]? = some (.own xs) → ss[j]? = some (.own ys) → σ[i]? = some (some (.ref a)) → σ[j]? = some (some (.ref a)) → False
  exc : ∀ (i : Nat) c, ss[i]? = some (.exc c) → ∃ a, Z.hx = some (a, c, i) ∧ σ[i]? = some (some (.ref a))
section
variable {K : PySem.W.Frag} {Z : Z0} {F F' H H' : Hp} {ss : List S} {σ : L2.St}
theorem Rel.sub (r : Rel K Z F ss σ H) : Same F H := r.ext.sub
theorem Rel.grow (r : Rel K Z F ss σ H) (e : Ext F H F' H') : Rel K Z F' ss σ H' where
  ext := r.ext.trans e
  len := r.len
  val := fun i d h => let ⟨v, a, b⟩ := r.val i d h; ⟨v, a, Rep.mono e.sf d v b⟩
  own := fun i xs h => let ⟨a, vs, h1, h2, h3, h4, h5⟩ := r.own i xs h; ⟨a, vs, h1, e.sh _ _ h2, e.new _ _ h3 h2, h4, Reps.mono e.sf _ _ h5⟩
  dis := r.dis
  exc := r.exc
theorem Rel.same (r : Rel K Z F ss σ H) (s : Same H H') : Rel K Z F ss σ H' := r.grow ⟨s, Same.refl _, fun _ _ h _ => h, r.sub.trans s⟩
/-- the frozen part grows alone: by things that are no owned list of a slot -/
theorem Rel.get {i : Nat} {x : S} {v : V} (r : Rel K Z F ss σ H) (h : ss[i]? = some x) : i < σ.length := by
  rw [← r.len]
  exact (List.getElem?_eq_some_iff.mp h).1
theorem Rel.lt {i : Nat} (r : Rel K Z F ss σ H) (h : i < ss.length) : i < σ.length := r.len ▸ h
/-- a slot gets a frozen value -/
theorem Rel.set {i : Nat} {d : D} {v : V} (r : Rel K Z F ss σ H) (q : Rep K F d v) : Rel K Z F (ss.set i (.val d)) (σ.set i (some v)) H where
  ext := r.ext
  len := by simp [r.len]
  val := fun j e h => by
    by_cases hj : i = j
    · subst hj
      by_cases hl : i < ss.length
      · rw [List.getElem?_set_self hl] at h
        cases h
        exact ⟨v, by rw [List.getElem?_set_self (r.lt hl)], q⟩
      · rw [List.getElem?_eq_none (by simpa using hl)] at h; cases h
    · rw [List.getElem?_set_ne hj] at h ⊢
      exact r.val j e h
  own := fun j xs h => by
    by_cases hj : i = j
    · subst hj
      by_cases hl : i < ss.length
      · rw [List.getElem?_set_self hl] at h; cases h
      · rw [List.getElem?_eq_none (by simpa using hl)] at h; cases h
    · rw [List.getElem?_set_ne hj] at h ⊢
      exact r.own j xs h
  dis := fun j k xs ys a n h1 h2 h3 h4 => by
    have e1 : i ≠ j := fun z => by
      subst z
      by_cases hl : i < ss.length
      · rw [List.getElem?_set_self hl] at h1; cases h1
      · rw [List.getElem?_eq_none (by simpa using hl)] at h1; cases h1
    have e2 : i ≠ k := fun z => by
      subst z
      by_cases hl : i < ss.length
      · rw [List.getElem?_set_self hl] at h2; cases h2
      · rw [List.getElem?_eq_none (by simpa using hl)] at h2; cases h2
    rw [List.getElem?_set_ne e1] at h1 h3
    rw [List.getElem?_set_ne e2] at h2 h4
    exact r.dis j k xs ys a n h1 h2 h3 h4
  exc := fun j c h => by
    by_cases hj : i = j
    · subst hj
      by_cases hl : i < ss.length
      · rw [List.getElem?_set_self hl] at h; cases h
      · rw [List.getElem?_eq_none (by simpa using hl)] at h; cases h
    · rw [List.getElem?_set_ne hj] at h ⊢
      exact r.exc j c h
/-- a slot is forgotten, whatever stands there -/
theorem Rel.emp {i : Nat} {o : Option V} (r : Rel K Z F ss σ H) : Rel K Z F (ss.set i .emp) (σ.set i o) H where
  ext := r.ext
  len := by simp [r.len]
  val := fun j e h => by
    by_cases hj : i = j
    · subst hj
      by_cases hl : i < ss.length
      · rw [List.getElem?_set_self hl] at h; cases h
      · rw [List.getElem?_eq_none (by simpa using hl)] at h; cases h
    · rw [List.getElem?_set_ne hj] at h ⊢
      exact r.val j e h
  own := fun j xs h => by
    by_cases hj : i = j
    · subst hj
      by_cases hl : i < ss.length
      · rw [List.getElem?_set_self hl] at h; cases h
      · rw [List.getElem?_eq_none (by simpa using hl)] at h; cases h
    · rw [List.getElem?_set_ne hj] at h ⊢
      exact r.own j xs h
  dis := fun j k xs ys a n h1 h2 h3 h4 => by
    have e1 : i ≠ j := fun z => by
      subst z
      by_cases hl : i < ss.length
      · rw [List.getElem?_set_self hl] at h1; cases h1
      · rw [List.getElem?_eq_none (by simpa using hl)] at h1; cases h1
    have e2 : i ≠ k := fun z => by
      subst z
      by_cases hl : i < ss.length
      · rw [List.getElem?_set_self hl] at h2; cases h2
      · rw [List.getElem?_eq_none (by simpa using hl)] at h2; cases h2
    rw [List.getElem?_set_ne e1] at h1 h3
    rw [List.getElem?_set_ne e2] at h2 h4
    exact r.dis j k xs ys a n h1 h2 h3 h4
  exc := fun j c h => by
    by_cases hj : i = j
    · subst hj
      by_cases hl : i < ss.length
      · rw [List.getElem?_set_self hl] at h; cases h
      · rw [List.getElem?_eq_none (by simpa using hl)] at h; cases h
    · rw [List.getElem?_set_ne hj] at h ⊢
      exact r.exc j c h
theorem Rel.wipe (r : Rel K Z F ss σ H) : ∀ vs : List Nat, Rel K Z F (wipe ss vs) (L2.wipe σ vs) H
  | [] => r
  | v :: vs => (Rel.wipe r vs).emp
/-- a slot gets a new list that nobody else holds; or the list of a slot is changed -/
theorem Rel.setOwn {i : Nat} {xs : List D} {a : Addr} {vs : List V} (r : Rel K Z F ss σ H) (h : H a = some (.lst vs)) (hf : F a = none) (h0 : Z.H0 a = none) (q : Reps K F xs vs)
    (hd : ∀ (j : Nat) ys, j ≠ i → ss[j]? = some (.own ys) → σ[j]? = some (some (.ref a)) → False) : Rel K Z F (ss.set i (.own xs)) (σ.set i (some (.ref a))) H where
  ext := r.ext
  len := by simp [r.len]
  val := fun j e h => by
    by_cases hj : i = j
    · subst hj
      by_cases hl : i < ss.length
      · rw [List.getElem?_set_self hl] at h; cases h
      · rw [List.getElem?_eq_none (by simpa using hl)] at h; cases h
    · rw [List.getElem?_set_ne hj] at h ⊢
      exact r.val j e h
  own := fun j ys e => by
    by_cases hj : i = j
    · subst hj
      by_cases hl : i < ss.length
      · rw [List.getElem?_set_self hl] at e
        cases e
        exact ⟨a, vs, by rw [List.getElem?_set_self (r.lt hl)], h, hf, h0, q⟩
      · rw [List.getElem?_eq_none (by simpa using hl)] at e; cases e
    · rw [List.getElem?_set_ne hj] at e ⊢
      exact r.own j ys e
  dis := fun j k ys zs b n h1 h2 h3 h4 => by
    by_cases hj : i = j
    · subst hj
      by_cases hl : i < ss.length
      · rw [List.getElem?_set_self (r.lt hl)] at h3
        cases h3
        rw [List.getElem?_set_ne n] at h2 h4
        exact hd k zs (Ne.symm n) h2 h4
      · rw [List.getElem?_eq_none (by simpa using hl)] at h1; cases h1
    · by_cases hk : i = k
      · subst hk
        by_cases hl : i < ss.length
        · rw [List.getElem?_set_self (r.lt hl)] at h4
          cases h4
          rw [List.getElem?_set_ne hj] at h1 h3
          exact hd j ys n h1 h3
        · rw [List.getElem?_eq_none (by simpa using hl)] at h2; cases h2
      · rw [List.getElem?_set_ne hj] at h1 h3
        rw [List.getElem?_set_ne hk] at h2 h4
        exact r.dis j k ys zs b n h1 h2 h3 h4
  exc := fun j c h => by
    by_cases hj : i = j
    · subst hj
      by_cases hl : i < ss.length
      · rw [List.getElem?_set_self hl] at h; cases h
      · rw [List.getElem?_eq_none (by simpa using hl)] at h; cases h
    · rw [List.getElem?_set_ne hj] at h ⊢
      exact r.exc j c h
/-- the list of slot i is written -/
theorem Rel.write {i : Nat} {xs ys : List D} {a : Addr} {us vs : List V} (r : Rel K Z F ss σ H) (hs : ss[i]? = some (.own xs)) (hσ : σ[i]? = some (some (.ref a))) (h : H a = some (.lst us)) (hf : F a = none) (h0 : Z.H0 a = none) (q : Reps K F ys vs) :
    Rel K Z F (ss.set i (.own ys)) σ (upd H a (.lst vs)) := by
  have hi := (List.getElem?_eq_some_iff.mp hs).1
  have nz : ∀ b o, b ≠ a → H b = some o → upd H a (.lst vs) b = some o := fun b o n e => by rw [upd_ne n]; exact e
  have base : Rel K Z F (ss.set i .emp) σ (upd H a (.lst vs)) :=
    { ext := ⟨fun b o e => nz b o (ne_of_none e h0) (r.ext.sh b o e), r.ext.sf, r.ext.new, fun b o e => nz b o (ne_of_none e hf) (r.ext.sub b o e)⟩
      len := by simp [r.len]
      val := fun j e z => by
        by_cases hj : i = j
        · subst hj; rw [List.getElem?_set_self hi] at z; cases z
        · rw [List.getElem?_set_ne hj] at z; exact r.val j e z
      own := fun j zs z => by
        by_cases hj : i = j
        · subst hj; rw [List.getElem?_set_self hi] at z; cases z
        · rw [List.getElem?_set_ne hj] at z
          obtain ⟨b, ws, h1, h2, h3, h4, h5⟩ := r.own j zs z
          refine ⟨b, ws, h1, nz b _ (fun y => ?_) h2, h3, h4, h5⟩
          subst y
          exact r.dis i j xs zs b hj hs z hσ h1
      dis := fun j k ys zs b n h1 h2 h3 h4 => by
        by_cases hj : i = j
        · subst hj; rw [List.getElem?_set_self hi] at h1; cases h1
        · by_cases hk : i = k
          · subst hk; rw [List.getElem?_set_self hi] at h2; cases h2
          · rw [List.getElem?_set_ne hj] at h1
            rw [List.getElem?_set_ne hk] at h2
            exact r.dis j k ys zs b n h1 h2 h3 h4
      exc := fun j c z => by
        by_cases hj : i = j
        · subst hj; rw [List.getElem?_set_self hi] at z; cases z
        · rw [List.getElem?_set_ne hj] at z; exact r.exc j c z }
  have w := base.setOwn (i := i) (xs := ys) (a := a) (vs := vs) upd_same hf h0 q (fun j zs n z1 z2 => by
    rw [List.getElem?_set_ne (Ne.symm n)] at z1
    exact r.dis j i zs xs a n z1 hs z2 hσ)
  have e1 : (ss.set i .emp).set i (.own ys) = ss.set i (.own ys) := by simp
  have e2 : σ.set i (some (V.ref a)) = σ := by
    apply List.ext_getElem?
    intro j
    by_cases hj : i = j
    · subst hj; rw [List.getElem?_set_self (r.lt hi), hσ]
    · rw [List.getElem?_set_ne hj]
  rw [e1, e2] at w
  exact w
/-- the list of slot i is held by many from now on -/
theorem Rel.frz {i : Nat} {xs : List D} (r : Rel K Z F ss σ H) (hs : ss[i]? = some (.own xs)) : ∃ F', Rel K Z F' (ss.set i (.val (.lst xs))) σ H ∧ Same F F' := by
  obtain ⟨a, vs, h1, h2, h3, h4, h5⟩ := r.own i xs hs
  have hi := (List.getElem?_eq_some_iff.mp hs).1
  have sf : Same F (upd F a (.lst vs)) := same_upd h3
  refine ⟨upd F a (.lst vs), ?_, sf⟩
  have na : ∀ b, b ≠ a → upd F a (.lst vs) b = F b := fun b n => upd_ne n
  exact
    { ext := ⟨r.ext.sh, r.ext.sf.trans sf, fun b o z1 z2 => by rw [na b (ne_of_none z2 h4)]; exact r.ext.new b o z1 z2, fun b o z => by
        by_cases hb : b = a
        · subst hb; rw [upd_same] at z; rw [h2]; exact z
        · rw [na b hb] at z; exact r.ext.sub b o z⟩
      len := by simp [r.len]
      val := fun j e z => by
        by_cases hj : i = j
        · subst hj
          rw [List.getElem?_set_self hi] at z
          cases z
          refine ⟨.ref a, h1, ?_⟩
          unfold Rep
          exact ⟨a, vs, rfl, upd_same, Reps.mono sf _ _ h5⟩
        · rw [List.getElem?_set_ne hj] at z
          obtain ⟨v, q1, q2⟩ := r.val j e z
          exact ⟨v, q1, Rep.mono sf _ _ q2⟩
      own := fun j zs z => by
        by_cases hj : i = j
        · subst hj; rw [List.getElem?_set_self hi] at z; cases z
        · rw [List.getElem?_set_ne hj] at z
          obtain ⟨b, ws, q1, q2, q3, q4, q5⟩ := r.own j zs z
          refine ⟨b, ws, q1, q2, ?_, q4, Reps.mono sf _ _ q5⟩
          rw [na b (fun y => by subst y; exact r.dis i j xs zs b hj hs z h1 q1)]
          exact q3
      dis := fun j k ys zs b n z1 z2 z3 z4 => by
        by_cases hj : i = j
        · subst hj; rw [List.getElem?_set_self hi] at z1; cases z1
        · by_cases hk : i = k
          · subst hk; rw [List.getElem?_set_self hi] at z2; cases z2
          · rw [List.getElem?_set_ne hj] at z1
            rw [List.getElem?_set_ne hk] at z2
            exact r.dis j k ys zs b n z1 z2 z3 z4
      exc := fun j c z => by
        by_cases hj : i = j
        · subst hj; rw [List.getElem?_set_self hi] at z; cases z
        · rw [List.getElem?_set_ne hj] at z; exact r.exc j c z }
end
end EV

set_option Elab.async false
set_option linter.all false
set_option autoImplicit false
set_option maxRecDepth 100000
set_option maxHeartbeats 2000000
/-! EvB2: the ends of expressions; operators and comparisons. -/
namespace EV
open PySem PySem.Spec PyProof.Rows L2

section
variable (K : PySem.W.Frag) (Z : Z0) (W : WX)
/-- what is wanted of an expression that ends so -/
def PostE (m : M R) (F H : Hp) (σ : L2.St) (Q : VK) : Prop := match m with
  | .ok r => ∀ v F' H', Ext F H F' H' → RepR K H F' H' r v → Q v H'
  | .ex c => ∀ H', Same H H' → W (Z.cls c) none σ H'
  | .bad => False
def PostB (m : M Bool) (F H : Hp) (σ : L2.St) (Q : Bool → Hp → Prop) : Prop := match m with
  | .ok b => ∀ F' H', Ext F H F' H' → Q b H'
  | .ex c => ∀ H', Same H H' → W (Z.cls c) none σ H'
  | .bad => False
def PostRs (m : M (List R)) (F H : Hp) (σ : L2.St) (Q : List V → Hp → Prop) : Prop := match m with
  | .ok rs => ∀ vs F' H', Ext F H F' H' → Paired (RepR K H F' H') rs vs → Q vs H'
  | .ex c => ∀ H', Same H H' → W (Z.cls c) none σ H'
  | .bad => False
def PostDs (m : M (List D)) (F H : Hp) (σ : L2.St) (Q : List V → Hp → Prop) : Prop := match m with
  | .ok ds => ∀ vs F' H', Ext F H F' H' → Reps K F' ds vs → Q vs H'
  | .ex c => ∀ H', Same H H' → W (Z.cls c) none σ H'
  | .bad => False
def PostO (m : M (Option Int)) (F H : Hp) (σ : L2.St) (Q : Option Int → Hp → Prop) : Prop := match m with
  | .ok o => ∀ F' H', Ext F H F' H' → Q o H'
  | .ex c => ∀ H', Same H H' → W (Z.cls c) none σ H'
  | .bad => False
/-- the reading of an expression -/
def tE (f : List S → M R) : TE := fun σ H Q => ∃ F ss, Rel K Z F ss σ H ∧ PostE K Z W (f ss) F H σ Q
def tB (f : List S → M Bool) : TT := fun σ H Q => ∃ F ss, Rel K Z F ss σ H ∧ PostB Z W (f ss) F H σ Q
def tRs (f : List S → M (List R)) : TA := fun σ H Q => ∃ F ss, Rel K Z F ss σ H ∧ PostRs K Z W (f ss) F H σ Q
def tDs (f : List S → M (List D)) : TA := fun σ H Q => ∃ F ss, Rel K Z F ss σ H ∧ PostDs K Z W (f ss) F H σ Q
def tOI (f : List S → M (Option Int)) : TO := fun σ H Q => ∃ F ss, Rel K Z F ss σ H ∧ PostO Z W (f ss) F H σ Q
end
section
variable {K : PySem.W.Frag} {Z : Z0} {W : WX} {F F' F1 H H' H1 : Hp} {σ : L2.St} {Q : VK}
theorem PostE.grow {m : M R} (h : PostE K Z W m F H σ Q) (e : Ext F H F1 H1) : PostE K Z W m F1 H1 σ Q := by
  cases m with
  | ok r => exact fun v F' H' x q => h v F' H' (e.trans x) (q.back e.sh)
  | ex c => exact fun H' s => h H' (e.sh.trans s)
  | bad => exact h
theorem PostB.grow {m : M Bool} {Q : Bool → Hp → Prop} (h : PostB Z W m F H σ Q) (e : Ext F H F1 H1) : PostB Z W m F1 H1 σ Q := by
  cases m with
  | ok r => exact fun F' H' x => h F' H' (e.trans x)
  | ex c => exact fun H' s => h H' (e.sh.trans s)
  | bad => exact h
theorem PostDs.grow {m : M (List D)} {Q : List V → Hp → Prop} (h : PostDs K Z W m F H σ Q) (e : Ext F H F1 H1) : PostDs K Z W m F1 H1 σ Q := by
  cases m with
  | ok r => exact fun v F' H' x q => h v F' H' (e.trans x) q
  | ex c => exact fun H' s => h H' (e.sh.trans s)
  | bad => exact h
theorem PostO.grow {m : M (Option Int)} {Q : Option Int → Hp → Prop} (h : PostO Z W m F H σ Q) (e : Ext F H F1 H1) : PostO Z W m F1 H1 σ Q := by
  cases m with
  | ok r => exact fun F' H' x => h F' H' (e.trans x)
  | ex c => exact fun H' s => h H' (e.sh.trans s)
  | bad => exact h
/-- data that is there already, or flat -/
theorem PostE.val {d : D} (h : PostE K Z W (.ok (.val d)) F H σ Q) (s : Same F H) {v : V} (q : Rep K F d v) : Q v H := h v F H (Ext.refl s) q
theorem PostE.tup {ds : List D} (h : PostE K Z W (.ok (.val (.tup ds))) F H σ Q) (s : Same F H) {vs : List V} (q : Reps K F ds vs) (p : Addr) (n : H p = none) : Q (.ref p) (upd H p (.tup vs)) := by
  have hf : F p = none := s.free n
  refine h _ _ _ (Ext.tup s n vs) ?_
  show Rep K _ _ _
  unfold Rep
  exact ⟨p, vs, rfl, SqT.of upd_same, Reps.mono (same_upd hf) _ _ q⟩
theorem PostE.own {ds : List D} (h : PostE K Z W (.ok (.own ds)) F H σ Q) (s : Same F H) {vs : List V} (q : Reps K F ds vs) (p : Addr) (n : H p = none) : Q (.ref p) (upd H p (.lst vs)) :=
  h _ F _ (Ext.new1 s n _) ⟨p, vs, rfl, upd_same, s.free n, n, q⟩
theorem View.int {i : Int} {v : V} (h : View K F H (.int i) v) : v = .int i := by
  have h' : Rep K F (.int i) v := h
  unfold Rep at h'; exact h'
theorem View.bl {i : Bool} {v : V} (h : View K F H (.bl i) v) : v = .bl i := by
  have h' : Rep K F (.bl i) v := h
  unfold Rep at h'; exact h'
theorem View.str {i : Str} {v : V} (h : View K F H (.str i) v) : v = .str i := by
  have h' : Rep K F (.str i) v := h
  unfold Rep at h'; exact h'
theorem View.non {v : V} (h : View K F H .non v) : v = .non := by
  have h' : Rep K F .non v := h
  unfold Rep at h'; exact h'
theorem View.lst {xs : List D} {v : V} (h : View K F H (.lst xs) v) : ∃ a vs, v = .ref a ∧ H a = some (.lst vs) ∧ Reps K F xs vs := h
theorem View.scr {xs : List D} {v : V} (h : View K F H (.scr xs) v) (s : Same F H) : ∃ a vs, v = .ref a ∧ SqL K H a vs ∧ Reps K F xs vs := by
  have h' : Rep K F (.scr xs) v := h
  unfold Rep at h'
  obtain ⟨a, vs, e, q, r⟩ := h'
  exact ⟨a, vs, e, s.seq q, r⟩
theorem repInt {i : Int} : Rep K F (.int i) (.int i) := by unfold Rep; rfl
theorem repBl {i : Bool} : Rep K F (.bl i) (.bl i) := by unfold Rep; rfl
theorem repStr {i : Str} : Rep K F (.str i) (.str i) := by unfold Rep; rfl
theorem repNon : Rep K F .non .non := by unfold Rep; rfl
theorem guardM_ok {α : Type} {c : Bool} {m : M α} {P : M α → Prop} (h : P (guardM c m)) (nb : ¬ P .bad) : c = true ∧ P m := by
  unfold guardM at h
  cases c with
  | true => exact ⟨rfl, by simpa using h⟩
  | false => exact absurd (by simpa using h) nb
end

/-! ### data as the library has them -/
mutual
def toPy : D → PyData
  | .non => .none
  | .bl b => .bool b
  | .int i => .int i
  | .str s => .str s
  | .tup xs => .tuple (toPys xs)
  | .lst xs => .list (toPys xs)
  | .scr xs => .list (toPys xs)
def toPys : List D → List PyData
  | [] => []
  | x :: xs => toPy x :: toPys xs
end
section
variable {K : PySem.W.Frag} {F H : Hp}
mutual
theorem Rep.dp (s : Same F H) : ∀ (d : D) (v : V), Rep K F d v → Dp K H v (toPy d)
  | .non, v, h => by unfold Rep at h; subst h; unfold toPy; exact .non
  | .bl b, v, h => by unfold Rep at h; subst h; unfold toPy; exact .bl b
  | .int b, v, h => by unfold Rep at h; subst h; unfold toPy; exact .int b
  | .str b, v, h => by unfold Rep at h; subst h; unfold toPy; exact .str b
  | .tup xs, v, h => by
    unfold Rep at h
    obtain ⟨a, vs, rfl, q, r⟩ := h
    unfold toPy
    exact .tup (Same.seqT s q) (Reps.dp s xs vs r)
  | .lst xs, v, h => by
    unfold Rep at h
    obtain ⟨a, vs, rfl, q, r⟩ := h
    unfold toPy
    exact .lst (SqL.of (s _ _ q)) (Reps.dp s xs vs r)
  | .scr xs, v, h => by
    unfold Rep at h
    obtain ⟨a, vs, rfl, q, r⟩ := h
    unfold toPy
    exact .lst (s.seq q) (Reps.dp s xs vs r)
theorem Reps.dp (s : Same F H) : ∀ (ds : List D) (vs : List V), Reps K F ds vs → DpAll K H vs (toPys ds)
  | [], vs, h => by unfold Reps at h; subst h; unfold toPys; exact .nil
  | d :: ds, vs, h => by
    unfold Reps at h
    obtain ⟨v, r, rfl, a, b⟩ := h
    unfold toPys
    exact .cons (Rep.dp s d v a) (Reps.dp s ds r b)
end
theorem View.dp (s : Same F H) : ∀ {d : D} {v : V}, View K F H d v → Dp K H v (toPy d)
  | .non, _, h => Rep.dp s _ _ h
  | .bl _, _, h => Rep.dp s _ _ h
  | .int _, _, h => Rep.dp s _ _ h
  | .str _, _, h => Rep.dp s _ _ h
  | .tup _, _, h => Rep.dp s _ _ h
  | .scr _, _, h => Rep.dp s _ _ h
  | .lst xs, v, ⟨a, vs, e, q, r⟩ => by
    subst e
    unfold toPy
    exact .lst (SqL.of q) (Reps.dp s xs vs r)
end
theorem toPys_map : ∀ xs : List D, toPys xs = xs.map toPy
  | [] => by unfold toPys; rfl
  | x :: xs => by unfold toPys; rw [toPys_map xs]; rfl
theorem wf_lay : ∀ (n : Nat) (d : D), wf n d = true → PyData.canLay0 (toPy d) = true ∧ PyData.depth (toPy d) ≤ n := by
  intro n
  induction n with
  | zero =>
    intro d h
    cases d with
    | non => exact ⟨by simp [toPy, PyData.canLay0], by simp [toPy, PyData.depth]⟩
    | bl b => exact ⟨by simp [toPy, PyData.canLay0], by simp [toPy, PyData.depth]⟩
    | int b => exact ⟨by simp [toPy, PyData.canLay0], by simp [toPy, PyData.depth]⟩
    | str b =>
      refine ⟨?_, by simp [toPy, PyData.depth]⟩
      simp only [toPy, PyData.canLay0]
      simpa [wf, strOk, PyData.strOk] using h
    | tup xs => simp [wf] at h
    | lst xs => simp [wf] at h
    | scr xs => simp [wf] at h
  | succ n ih =>
    have all : ∀ xs : List D, xs.all (wf n) = true → PyData.canLayAll0 (toPys xs) = true ∧ PyData.depthAll (toPys xs) ≤ n := by
      intro xs
      induction xs with
      | nil => intro _; exact ⟨by simp [toPys, PyData.canLayAll0], by simp [toPys, PyData.depthAll]⟩
      | cons x xs ihx =>
        intro h
        rw [List.all_cons, Bool.and_eq_true] at h
        obtain ⟨h1, h2⟩ := h
        obtain ⟨a1, a2⟩ := ih x h1
        obtain ⟨b1, b2⟩ := ihx h2
        simp only [toPys, PyData.canLayAll0, PyData.depthAll]
        exact ⟨by rw [a1, b1]; rfl, by omega⟩
    intro d h
    cases d with
    | non => exact ⟨by simp [toPy, PyData.canLay0], by simp [toPy, PyData.depth]⟩
    | bl b => exact ⟨by simp [toPy, PyData.canLay0], by simp [toPy, PyData.depth]⟩
    | int b => exact ⟨by simp [toPy, PyData.canLay0], by simp [toPy, PyData.depth]⟩
    | str b =>
      refine ⟨?_, by simp [toPy, PyData.depth]⟩
      simp only [toPy, PyData.canLay0]
      simpa [wf, strOk, PyData.strOk] using h
    | tup xs =>
      obtain ⟨a, b⟩ := all xs (by simpa [wf] using h)
      simp only [toPy, PyData.canLay0, PyData.depth]
      exact ⟨a, by omega⟩
    | lst xs =>
      obtain ⟨a, b⟩ := all xs (by simpa [wf] using h)
      simp only [toPy, PyData.canLay0, PyData.depth]
      exact ⟨a, by omega⟩
    | scr xs => simp [wf] at h
theorem wf_shaped {d : D} (h : wf 60 d = true) : SeqAt.shaped (toPy d) = true := by
  obtain ⟨a, b⟩ := wf_lay 60 d h
  unfold SeqAt.shaped
  rw [a, Bool.true_and]
  exact decide_eq_true (by omega)
theorem eqv_eqD : ∀ (n : Nat) (d e : D), wf n d = true → wf n e = true → PyData.eqv (toPy d) (toPy e) = eqD d e := by
  intro n
  induction n with
  | zero =>
    intro d e hd he
    cases d <;> cases e <;> first
      | (simp [wf] at hd; done)
      | (simp [wf] at he; done)
      | simp [toPy, PyData.eqv, eqD]
  | succ n ih =>
    have all : ∀ xs ys : List D, xs.all (wf n) = true → ys.all (wf n) = true → PyData.eqvAll (toPys xs) (toPys ys) = eqDs xs ys := by
      intro xs
      induction xs with
      | nil => intro ys _ _; cases ys <;> simp [toPys, PyData.eqvAll, eqDs]
      | cons x xs ihx =>
        intro ys h1 h2
        cases ys with
        | nil => simp [toPys, PyData.eqvAll, eqDs]
        | cons y ys =>
          rw [List.all_cons, Bool.and_eq_true] at h1 h2
          simp only [toPys, PyData.eqvAll, eqDs]
          rw [ih x y h1.1 h2.1, ihx ys h1.2 h2.2]
    intro d e hd he
    cases d <;> cases e <;> first
      | (simp [wf] at hd; done)
      | (simp [wf] at he; done)
      | (simp only [toPy, PyData.eqv, eqD]; exact all _ _ (by simpa [wf] using hd) (by simpa [wf] using he))
      | simp [toPy, PyData.eqv, eqD]
theorem any_eqv {n : Nat} {d : D} (hd : wf n d = true) : ∀ xs : List D, xs.all (wf n) = true → ((toPys xs).any fun z => PyData.eqv z (toPy d)) = xs.any fun z => eqD z d
  | [], _ => by simp [toPys]
  | x :: xs, h => by
    rw [List.all_cons, Bool.and_eq_true] at h
    rw [toPys, List.any_cons, List.any_cons, eqv_eqD n x d h.1 hd, any_eqv hd xs h.2]
theorem wf_up : ∀ (n : Nat) (d : D), wf n d = true → wf (n + 1) d = true := by
  intro n
  induction n with
  | zero => intro d h; cases d <;> first | (simp [wf] at h; done) | (simpa [wf] using h)
  | succ n ih =>
    intro d h
    cases d with
    | tup xs =>
      have h' : xs.all (wf n) = true := by simpa [wf] using h
      show xs.all (wf (n + 1)) = true
      exact List.all_eq_true.mpr fun x hx => ih x (List.all_eq_true.mp h' x hx)
    | lst xs =>
      have h' : xs.all (wf n) = true := by simpa [wf] using h
      show xs.all (wf (n + 1)) = true
      exact List.all_eq_true.mpr fun x hx => ih x (List.all_eq_true.mp h' x hx)
    | scr xs => simp [wf] at h
    | non => rfl
    | bl b => rfl
    | int b => rfl
    | str b => simpa [wf] using h

/-! ### operators -/
/-- a tuple once is the tuple itself -/
theorem once_tup (l : Addr) (items : Array Value) (n : Nat) (dd : Option Addr) (sl : Array (Option Value)) (u : Tok) :
    Meets (Builtin.«tuple.__mul__» ⟨[.ref l, .int 1 u], []⟩) (fun _ R s => s.heap.get? l = some { cls := .type "tuple", dict := dd, data := .seq items n, slots := sl } ∧ R (.ok (.ret (.ref l))) s) :=
  .of_wp fun prog w A R s h => by
    obtain ⟨hp, g, d, tk, os⟩ := s
    obtain ⟨hl, h⟩ := h
    have f1 := AutoSeq1.idx_int
    wp_walk using wpAny_loadPart' hl
    exact ⟨_, rfl, h⟩
/-- a tuple no time is a new empty one -/
theorem never_tup (l : Addr) (items : Array Value) (n : Nat) (dd : Option Addr) (sl : Array (Option Value)) (u : Tok) (c1 : (items.isEmpty || (0 : Int) == 1) = false) :
    Meets (Builtin.«tuple.__mul__» ⟨[.ref l, .int 0 u], []⟩) (fun _ R s => s.heap.get? l = some { cls := .type "tuple", dict := dd, data := .seq items n, slots := sl } ∧ R (.ok (.ret (Value.ref s.heap.objs.size))) { s with heap := s.heap.push { cls := Value.type "tuple", data := Data.seq #[] }, toks := s.toks }) :=
  .of_wp fun prog w A R s h => by
    obtain ⟨hp, g, d, tk, os⟩ := s
    obtain ⟨hl, h⟩ := h
    have f1 := AutoSeq1.idx_int
    wp_walk using wpAny_loadPart' hl
    rw [c1, if_neg Bool.false_ne_true]
    simp only [Int.le_refl, decide_true, Bool.true_or, if_true]
    wp_walk using wpAny_loadPart' hl
    exact ⟨_, rfl, h⟩
section
variable {X : Cx}
/-- tuple * 1 -/
def rOnce (K : PySem.W.Frag) : R2 := fun x y H Q => ∃ l xs, x = .ref l ∧ y = .int 1 ∧ SqT K H l xs ∧ Q (.ref l) H
theorem op_once : OpR X (binaryOp .Mult) (rOnce X.K) := by
  intro pn s σ H x y v u Q I rx ry hh
  obtain ⟨l, xs, rfl, rfl, hT, q⟩ := hh
  cases rx
  obtain ⟨t, rfl⟩ := ry
  obtain ⟨its, rv, ⟨⟨ct, dd, dt, sl⟩, ho, hc, n, hd⟩, hz⟩ := I.tuple hT
  simp only at hc hd
  subst hc hd
  have tm := once_tup l its.toArray n dd sl t
  refine wpAny_binaryOp_repeat_ref (T := "tuple") (U := "int") (by decide) ⟨_, ho, rfl⟩ (fun z => typeIs_int z 1 t) noFill_tuple_mul F.fills_int_mul F.slot_int_rmul repeat_tuple F.slot_int_index.lookup ?_
  refine call_meets F.slot_int_rmul (typeIs_int s 1 t) F.entry_int_rmul (F.args_int_rmul_2 _ _) (int_rmul_tuple 1 t l its.toArray n dd sl) ⟨ho, rfl, ⟨_, ho, rfl⟩, ?_⟩
  refine call_meets F.slot_tuple_mul ⟨_, ho, rfl⟩ F.entry_tuple_mul (F.args_tuple_mul_2 _ _) tm ⟨ho, ?_⟩
  exact ⟨.ref l, H, I, rfl, q⟩
/-- tuple * 0 -/
def rNever (K : PySem.W.Frag) : R2 := fun x y H Q => ∃ l xs, x = .ref l ∧ y = .int 0 ∧ SqT K H l xs ∧ xs ≠ [] ∧ ∀ p, H p = none → Q (.ref p) (upd H p (.tup []))
theorem op_never : OpR X (binaryOp .Mult) (rNever X.K) := by
  intro pn s σ H x y v u Q I rx ry hh
  obtain ⟨l, xs, rfl, rfl, hT, hne, q⟩ := hh
  cases rx
  obtain ⟨t, rfl⟩ := ry
  obtain ⟨its, rv, ⟨⟨ct, dd, dt, sl⟩, ho, hc, n, hd⟩, hz⟩ := I.tuple hT
  simp only at hc hd
  subst hc hd
  have c1 : (its.toArray.isEmpty || (0 : Int) == 1) = false := by
    have hle := rv.length
    cases its with
    | nil => exact absurd (List.eq_nil_of_length_eq_zero hle) hne
    | cons a b => rfl
  have tm := never_tup l its.toArray n dd sl t c1
  refine wpAny_binaryOp_repeat_ref (T := "tuple") (U := "int") (by decide) ⟨_, ho, rfl⟩ (fun z => typeIs_int z 0 t) noFill_tuple_mul F.fills_int_mul F.slot_int_rmul repeat_tuple F.slot_int_index.lookup ?_
  refine call_meets F.slot_int_rmul (typeIs_int s 0 t) F.entry_int_rmul (F.args_int_rmul_2 _ _) (int_rmul_tuple 0 t l its.toArray n dd sl) ⟨ho, rfl, ⟨_, ho, rfl⟩, ?_⟩
  refine call_meets F.slot_tuple_mul ⟨_, ho, rfl⟩ F.entry_tuple_mul (F.args_tuple_mul_2 _ _) tm ⟨ho, ?_⟩
  refine ⟨.ref s.heap.objs.size, _, I.laid (t' := s.toks) (o := .tup []) (fun b ob z => Heap.get?_push_of_some _ z) (Nat.le_refl _) ?_, rfl, q _ (I.hok.fresh (Nat.le_refl _))⟩
  exact ⟨Nat.zero_le _, [], .nil, IsTup.new _ _⟩
end
section
variable {X : Cx} {Z : Z0} {W : WX}
/-- the reading of an operator that works on what is seen -/
def rOp (K : PySem.W.Frag) (Z : Z0) (W : WX) (f : D → D → M R) : R2 := fun x y H Q => ∃ F σ d e, Same F H ∧ View K F H d x ∧ View K F H e y ∧ PostE K Z W (f d e) F H σ Q
theorem useR {f : Value → Value → Sem Value} {r : R2} (h : OpR X f r) {pins : List (Addr × Obj)} {s : Shared} {σ : L2.St} {H : Hp} {x y : V} {v u : Value} {Q : VK} (I : Inv X pins σ H s) (rx : RelV x v) (ry : RelV y u) (q : r x y H Q) :
    wpAny (model X.prog X.w) X.A (f v u) (EP X pins σ Q) X.xe s := h pins s σ H x y v u Q I rx ry q
theorem op_opD (o : Operator) : OpR X (binaryOp o) (rOp X.K Z W (opD o)) := by
  intro pins s σ H x y v u Q I rx ry h
  obtain ⟨F, σ', d, e, sf, hx, hy, p⟩ := h
  unfold opD at p
  split at p
  · cases hx.int; cases hy.int
    exact useR op_add I rx ry ⟨_, _, rfl, rfl, p.val sf repInt⟩
  · rename_i i b
    cases hx.int; cases hy.bl
    refine useR op_add_ib I rx ry ⟨_, _, rfl, rfl, p.val sf ?_⟩
    unfold Rep
    cases b <;> rfl
  · cases hx.str; cases hy.str
    obtain ⟨c, p⟩ := guardM_ok (P := fun m => PostE X.K Z W m F H σ' Q) p (fun z => z)
    exact useR op_add_str I rx ry ⟨_, _, rfl, rfl, by rw [← line_eq]; exact of_decide_eq_true c, p.val sf repStr⟩
  · obtain ⟨a, us, rfl, ha, ra⟩ := hx.lst
    obtain ⟨b, ws, rfl, hb, rb⟩ := hy.lst
    obtain ⟨c, p⟩ := guardM_ok (P := fun m => PostE X.K Z W m F H σ' Q) p (fun z => z)
    exact useR op_cat I rx ry ⟨a, b, us, ws, rfl, rfl, ha, hb, by rw [← ra.length, ← rb.length, ← line_eq]; exact of_decide_eq_true c, fun q nq => p.own sf (Reps.append ra rb) q nq⟩
  · rename_i xs ys
    obtain ⟨a, us, rfl, ha, ra⟩ := hx.tup sf
    obtain ⟨b, ws, rfl, hb, rb⟩ := hy.tup sf
    obtain ⟨c, p⟩ := guardM_ok (P := fun m => PostE X.K Z W m F H σ' Q) p (fun z => z)
    have la := ra.length
    have lb := rb.length
    refine useR op_catA I rx ry ⟨a, b, us, ws, rfl, rfl, ha, hb, by rw [← la, ← lb, ← line_eq]; exact of_decide_eq_true c, fun z => ?_, fun z1 z => ?_, fun z1 z2 q nq => p.tup sf (Reps.append ra rb) q nq⟩
    · have : xs = [] := List.length_eq_zero_iff.mp (by rw [la, z]; rfl)
      subst this
      exact p.val sf hy
    · have : ys = [] := List.length_eq_zero_iff.mp (by rw [lb, z]; rfl)
      subst this
      rw [List.append_nil] at p
      exact p.val sf hx
  · cases hx.int; cases hy.int
    exact useR op_sub I rx ry ⟨_, _, rfl, rfl, p.val sf repInt⟩
  · cases hx.int; cases hy.int
    obtain ⟨c, p⟩ := guardM_ok (P := fun m => PostE X.K Z W m F H σ' Q) p (fun z => z)
    exact useR op_mulW I rx ry ⟨_, _, rfl, rfl, (by unfold CMulW; exact of_decide_eq_true c), p.val sf repInt⟩
  · obtain ⟨a, us, rfl, ha, ra⟩ := hx.lst
    cases hy.int
    obtain ⟨c, p⟩ := guardM_ok (P := fun m => PostE X.K Z W m F H σ' Q) p (fun z => z)
    simp only [Bool.and_eq_true, decide_eq_true_eq] at c
    obtain ⟨⟨c1, c2⟩, c3⟩ := c
    exact useR op_rep I rx ry ⟨a, _, us, rfl, rfl, ha, by omega, by omega, by rw [← ra.length, ← line_eq]; exact c3, fun q nq => p.own sf (Reps.rep ra _) q nq⟩
  · rename_i xs k
    obtain ⟨a, us, rfl, ha, ra⟩ := hx.tup sf
    cases hy.int
    obtain ⟨c, p⟩ := guardM_ok (P := fun m => PostE X.K Z W m F H σ' Q) p (fun z => z)
    simp only [Bool.and_eq_true, decide_eq_true_eq] at c
    obtain ⟨⟨⟨c1, c2⟩, c3⟩, c4⟩ := c
    have la := ra.length
    have hne : us ≠ [] := fun e => by rw [e] at la; exact absurd la (by simpa using c4)
    by_cases k0 : k = 0
    · subst k0
      exact useR op_never I rx ry ⟨a, us, rfl, rfl, ha, hne, fun q nq => p.tup sf Reps.nil q nq⟩
    · by_cases k1 : k = 1
      · subst k1
        refine useR op_once I rx ry ⟨a, us, rfl, rfl, ha, ?_⟩
        have e : (List.replicate (1 : Int).toNat xs).flatten = xs := by simp
        rw [e] at p
        exact p.val sf hx
      · exact useR op_repT I rx ry ⟨a, _, us, rfl, rfl, ha, hne, by omega, by omega, by omega, fun q nq => p.tup sf (Reps.rep ra _) q nq⟩
  · cases hx.int; cases hy.int
    obtain ⟨c, p⟩ := guardM_ok (P := fun m => PostE X.K Z W m F H σ' Q) p (fun z => z)
    simp only [Bool.and_eq_true, decide_eq_true_eq] at c
    exact useR op_fdivW I rx ry ⟨_, _, rfl, rfl, c, p.val sf repInt⟩
  · cases hx.int; cases hy.int
    obtain ⟨c, p⟩ := guardM_ok (P := fun m => PostE X.K Z W m F H σ' Q) p (fun z => z)
    exact useR op_mod I rx ry ⟨_, _, rfl, rfl, of_decide_eq_true c, p.val sf repInt⟩
  · cases hx.int; cases hy.int
    obtain ⟨c, p⟩ := guardM_ok (P := fun m => PostE X.K Z W m F H σ' Q) p (fun z => z)
    simp only [Bool.and_eq_true, decide_eq_true_eq] at c
    exact useR op_pow I rx ry ⟨_, _, rfl, rfl, ⟨c.1.1, c.1.2, c.2⟩, p.val sf repInt⟩
  · exact p.elim
theorem deepM_ok {K : PySem.W.Frag} {d e : D} {b : Bool} {F H : Hp} {σ' : L2.St} {Q : VK} (sf : Same F H) (p : PostE K Z W (deepM d e b) F H σ' Q) : wf 60 d = true ∧ wf 60 e = true ∧ Q (.bl b) H := by
  obtain ⟨c, p⟩ := guardM_ok (P := fun m => PostE K Z W m F H σ' Q) p (fun z => z)
  simp only [Bool.and_eq_true] at c
  exact ⟨c.1, c.2, p.val sf repBl⟩
theorem isN_iff {K : PySem.W.Frag} {F H : Hp} : ∀ {d : D} {x : V}, View K F H d x → (match d with | .non => true | _ => false) = decide (x = .non)
  | .non, x, h => by cases h.non; rfl
  | .bl b, x, h => by cases h.bl; rfl
  | .int b, x, h => by cases h.int; rfl
  | .str b, x, h => by cases h.str; rfl
  | .tup b, x, h => by
    have h' : Rep K F (.tup b) x := h
    unfold Rep at h'
    obtain ⟨a, vs, rfl, _⟩ := h'
    rfl
  | .scr b, x, h => by
    have h' : Rep K F (.scr b) x := h
    unfold Rep at h'
    obtain ⟨a, vs, rfl, _⟩ := h'
    rfl
  | .lst b, x, h => by
    obtain ⟨a, vs, rfl, _⟩ := h.lst
    rfl
theorem op_cmpD (hu : X.A.units + 65 < cLine) (o : CmpOp) : OpR X (compareOp o) (rOp X.K Z W (cmpD o)) := by
  intro pins s σ H x y v u Q I rx ry h
  obtain ⟨F, σ', d, e, sf, hx, hy, p⟩ := h
  have room : ∀ {da db : PyData}, SeqAt.shaped db = true → X.A.units + 1 + min da.depth db.depth < cLine := fun {da db} h => by
    have h1 := SeqAt.depth_of_shaped h
    have h2 : min da.depth db.depth ≤ db.depth := Nat.min_le_right _ _
    omega
  unfold cmpD at p
  split at p
  · obtain ⟨w1, w2, q⟩ := deepM_ok sf p
    refine useR (op_eqD (X := X) (by omega)) I rx ry ⟨_, _, hx.dp sf, hy.dp sf, wf_shaped w1, wf_shaped w2, ?_⟩
    rw [eqv_eqD 60 _ _ w1 w2]; exact q
  · obtain ⟨w1, w2, q⟩ := deepM_ok sf p
    refine useR (op_neD (X := X) (by omega)) I rx ry ⟨_, _, hx.dp sf, hy.dp sf, wf_shaped w1, wf_shaped w2, ?_⟩
    rw [eqv_eqD 60 _ _ w1 w2]; exact q
  · cases hx.int; cases hy.int
    exact useR op_lt I rx ry ⟨_, _, rfl, rfl, p.val sf repBl⟩
  · cases hx.int; cases hy.int
    exact useR op_le I rx ry ⟨_, _, rfl, rfl, p.val sf repBl⟩
  · cases hx.int; cases hy.int
    exact useR op_gt I rx ry ⟨_, _, rfl, rfl, p.val sf repBl⟩
  · cases hx.int; cases hy.int
    exact useR op_ge I rx ry ⟨_, _, rfl, rfl, p.val sf repBl⟩
  · cases hx.bl; cases hy.bl
    exact useR op_isBl I rx ry ⟨_, _, rfl, rfl, p.val sf repBl⟩
  · cases hy.non
    refine useR op_isN I rx ry ⟨rfl, ?_⟩
    rw [← isN_iff hx]
    exact p.val sf repBl
  · cases hx.bl; cases hy.bl
    exact useR op_notBl I rx ry ⟨_, _, rfl, rfl, p.val sf repBl⟩
  · cases hy.non
    refine useR op_notN I rx ry ⟨rfl, ?_⟩
    rw [← isN_iff hx]
    have e : ∀ d : D, (!(match d with | .non => true | _ => false)) = (match d with | .non => false | _ => true) := fun d => by cases d <;> rfl
    rw [e]
    exact p.val sf repBl
  · rename_i xs
    obtain ⟨w1, w2, q⟩ := deepM_ok sf p
    have w3 : xs.all (wf 60) = true := List.all_eq_true.mpr fun z hz => wf_up 59 z (List.all_eq_true.mp (show xs.all (wf 59) = true from w2) z hz)
    refine useR (op_inD hu) I rx ry ⟨_, toPys xs, hx.dp sf, by simpa [toPy] using hy.dp sf, wf_shaped w1, by simpa [toPy] using wf_shaped w2, ?_⟩
    rw [any_eqv w1 xs w3]; exact q
  · rename_i xs
    obtain ⟨w1, w2, q⟩ := deepM_ok sf p
    have w3 : xs.all (wf 60) = true := List.all_eq_true.mpr fun z hz => wf_up 59 z (List.all_eq_true.mp (show xs.all (wf 59) = true from w2) z hz)
    refine useR (op_notInD hu) I rx ry ⟨_, toPys xs, hx.dp sf, by simpa [toPy] using hy.dp sf, wf_shaped w1, by simpa [toPy] using wf_shaped w2, ?_⟩
    rw [any_eqv w1 xs w3]; exact q
  · rename_i xs
    obtain ⟨w1, w2, q⟩ := deepM_ok sf p
    have w3 : xs.all (wf 60) = true := List.all_eq_true.mpr fun z hz => wf_up 59 z (List.all_eq_true.mp (show xs.all (wf 59) = true from w2) z hz)
    obtain ⟨as, r1⟩ := Dp.reads I _ x v (hx.dp sf) rx
    obtain ⟨bs, r2⟩ := Dp.reads I _ y u (hy.dp sf) ry
    have sh : SeqAt.shaped (.tuple (toPys xs)) = true := by simpa [toPy] using wf_shaped w2
    refine SeqAt.in_tuple_reads (xs := toPys xs) (by simpa [toPy] using r2) r1 (SeqAt.canLay_of_shaped sh) (SeqAt.canLay_of_shaped (wf_shaped w1)) (room_in_shaped (wf_shaped w1) hu) ⟨.bl _, H, I, rfl, ?_⟩
    rw [any_eqv w1 xs w3]; exact q
  · rename_i xs
    obtain ⟨w1, w2, q⟩ := deepM_ok sf p
    have w3 : xs.all (wf 60) = true := List.all_eq_true.mpr fun z hz => wf_up 59 z (List.all_eq_true.mp (show xs.all (wf 59) = true from w2) z hz)
    obtain ⟨as, r1⟩ := Dp.reads I _ x v (hx.dp sf) rx
    obtain ⟨bs, r2⟩ := Dp.reads I _ y u (hy.dp sf) ry
    have sh : SeqAt.shaped (.tuple (toPys xs)) = true := by simpa [toPy] using wf_shaped w2
    refine SeqAt.notIn_tuple_reads (xs := toPys xs) (by simpa [toPy] using r2) r1 (SeqAt.canLay_of_shaped sh) (SeqAt.canLay_of_shaped (wf_shaped w1)) (room_in_shaped (wf_shaped w1) hu) ⟨.bl _, H, I, rfl, ?_⟩
    rw [any_eqv w1 xs w3]; exact q
  · exact p.elim
end
end EV

set_option Elab.async false
set_option linter.all false
set_option autoImplicit false
set_option maxRecDepth 100000
set_option maxHeartbeats 4000000
/-! EvB3: built-in functions, items, slices; targets; what is asked of the syntax. -/
namespace EV
open PySem PySem.Spec PyProof.Rows L2

theorem sIx_eq (n d : Nat) (o : Option Int) : sIx n d o = HT.sIx n d o := by
  cases o <;> rfl
theorem ixN_eq (n : Nat) (i : Int) : ixN n i = L2.ixN n i := rfl
theorem Reps.cut {K : PySem.W.Frag} {F : Hp} {ds : List D} {vs : List V} (h : Reps K F ds vs) (lo hi : Option Int) : Reps K F (cut ds lo hi) (cutV vs lo hi) := by
  unfold EV.cut cutV
  rw [sIx_eq, sIx_eq, h.length]
  exact Reps.take _ (Reps.drop _ h)
theorem Reps.atI {K : PySem.W.Frag} {F : Hp} {ds : List D} {vs : List V} {i : Int} {d : D} (h : Reps K F ds vs) (e : EV.atI ds i = some d) : ∃ v, L2.atI vs i = some v ∧ Rep K F d v := by
  unfold EV.atI at e
  unfold L2.atI
  rw [h.length, ixN_eq] at e
  cases q : L2.ixN vs.length i with
  | none => rw [q] at e; cases e
  | some j =>
    rw [q] at e
    obtain ⟨v, h1, h2⟩ := h.get (show ds[j]? = some d from e)
    exact ⟨v, h1, h2⟩
theorem M.ofO_ok {α β : Type} {o : Option α} {f : α → M β} {P : M β → Prop} (h : P ((M.ofO o).bind f)) (nb : ¬ P .bad) : ∃ a, o = some a ∧ P (f a) := by
  cases o with
  | none => exact absurd h nb
  | some a => exact ⟨a, rfl, h⟩

section
variable {X : Cx} {Z : Z0} {W : WX}
theorem ix_D : IxR X (rOp X.K Z W ixD) := by
  intro value slice pins s σ H x y v u Q I rx ry h hs
  obtain ⟨F, σ', d, e, sf, hx, hy, p⟩ := h
  unfold ixD at p
  split at p
  · obtain ⟨a, us, rfl, ha, ra⟩ := hx.lst
    cases hy.int
    obtain ⟨z, ez, p⟩ := M.ofO_ok (P := fun m => PostE X.K Z W m F H σ' Q) p (fun z => z)
    obtain ⟨w, h1, h2⟩ := ra.atI ez
    exact ix_list value slice pins s σ H _ _ v u Q I rx ry ⟨a, us, _, w, rfl, rfl, SqL.of ha, h1, p.val sf h2⟩ hs
  · obtain ⟨a, us, rfl, ha, ra⟩ := hx.scr sf
    cases hy.int
    obtain ⟨z, ez, p⟩ := M.ofO_ok (P := fun m => PostE X.K Z W m F H σ' Q) p (fun z => z)
    obtain ⟨w, h1, h2⟩ := ra.atI ez
    exact ix_list value slice pins s σ H _ _ v u Q I rx ry ⟨a, us, _, w, rfl, rfl, ha, h1, p.val sf h2⟩ hs
  · obtain ⟨a, us, rfl, ha, ra⟩ := hx.tup sf
    cases hy.int
    obtain ⟨z, ez, p⟩ := M.ofO_ok (P := fun m => PostE X.K Z W m F H σ' Q) p (fun z => z)
    obtain ⟨w, h1, h2⟩ := ra.atI ez
    exact ix_tup value slice pins s σ H _ _ v u Q I rx ry ⟨a, us, _, w, rfl, rfl, ha, h1, p.val sf h2⟩ hs
  · cases hx.str; cases hy.int
    obtain ⟨c, p⟩ := guardM_ok (P := fun m => PostE X.K Z W m F H σ' Q) p (fun z => z)
    obtain ⟨z, ez, p⟩ := M.ofO_ok (P := fun m => PostE X.K Z W m F H σ' Q) p (fun z => z)
    exact ix_str value slice pins s σ H _ _ v u Q I rx ry ⟨_, _, z, rfl, rfl, by rw [← line_eq]; exact of_decide_eq_true c, ez, p.val sf repStr⟩ hs
  · exact p.elim
def rSl (K : PySem.W.Frag) (Z : Z0) (W : WX) : V → Option Int → Option Int → Hp → VK → Prop := fun x lo hi H Q => ∃ F σ d, Same F H ∧ View K F H d x ∧ PostE K Z W (slD d lo hi) F H σ Q
theorem sl_D : SlR X (rSl X.K Z W) := by
  intro pins s σ H x v vl vu lo hi sl Q I rx hs pl pu h
  obtain ⟨F, σ', d, sf, hx, p⟩ := h
  unfold slD at p
  split at p
  · obtain ⟨a, us, rfl, ha, ra⟩ := hx.lst
    exact sl_list pins s σ H _ v vl vu _ _ sl Q I rx hs pl pu ⟨a, us, rfl, SqL.of ha, fun q nq => p.own sf (ra.cut _ _) q nq⟩
  · obtain ⟨a, us, rfl, ha, ra⟩ := hx.scr sf
    exact sl_list pins s σ H _ v vl vu _ _ sl Q I rx hs pl pu ⟨a, us, rfl, ha, fun q nq => p.own sf (ra.cut _ _) q nq⟩
  · rename_i xs
    obtain ⟨a, us, rfl, ha, ra⟩ := hx.tup sf
    refine sl_tupA pins s σ H _ v vl vu _ _ sl Q I rx hs pl pu ⟨a, us, rfl, ha, fun z => ?_, fun _ q nq => p.tup sf (ra.cut _ _) q nq⟩
    have e : EV.cut xs lo hi = xs := by
      unfold EV.cut
      rw [sIx_eq, sIx_eq, ra.length, z.1, z.2]
      simp [← ra.length]
    rw [e] at p
    exact p.val sf hx
  · cases hx.str
    obtain ⟨c, p⟩ := guardM_ok (P := fun m => PostE X.K Z W m F H σ' Q) p (fun z => z)
    exact sl_str pins s σ H _ v vl vu _ _ sl Q I rx hs pl pu ⟨_, rfl, by rw [← line_eq]; exact of_decide_eq_true c, p.val sf (by unfold Rep cutS EV.cut; rw [sIx_eq, sIx_eq]; simp [Str.length])⟩
  · exact p.elim

/-! ### built-in functions -/
def bval : B → Value
  | .len => .builtin "len" | .abs => .builtin "abs" | .int => .type "int" | .max2 => .builtin "max" | .min2 => .builtin "min" | .sum => .builtin "sum"
  | .all => .builtin "all" | .any => .builtin "any" | .tuple => .type "tuple" | .list => .type "list" | .str => .type "str"
def bname : B → Str
  | .len => "len" | .abs => "abs" | .int => "int" | .max2 => "max" | .min2 => "min" | .sum => "sum"
  | .all => "all" | .any => "any" | .tuple => "tuple" | .list => "list" | .str => "str"
theorem bboot (f : B) : bootBuiltins (bname f) = some (bval f) := by
  cases f <;> decide +kernel
/-- the reading of a call of a built-in function -/
def rB (K : PySem.W.Frag) (Z : Z0) (W : WX) (f : B) : List V → Hp → VK → Prop := fun vs H Q => ∃ F σ ds, Same F H ∧ Paired (View K F H) ds vs ∧ PostE K Z W (bltD f ds) F H σ Q
theorem boolsOf_map {K : PySem.W.Frag} {F : Hp} : ∀ {xs : List D} {vs : List V} {bs : List Bool}, Reps K F xs vs → boolsOf xs = some bs → vs = bs.map V.bl
  | [], vs, bs, h, e => by unfold Reps at h; subst h; cases e; rfl
  | x :: xs, vs, bs, h, e => by
    unfold Reps at h
    obtain ⟨v, r, rfl, a, b⟩ := h
    cases x with
    | bl q =>
      unfold boolsOf at e
      cases z : boolsOf xs with
      | none => rw [z] at e; cases e
      | some ws =>
        rw [z] at e; cases e
        unfold Rep at a; subst a
        rw [boolsOf_map b z]; rfl
    | _ => unfold boolsOf at e; cases e
theorem intsOf_map {K : PySem.W.Frag} {F : Hp} : ∀ {xs : List D} {vs : List V} {bs : List Int}, Reps K F xs vs → intsOf xs = some bs → vs = bs.map V.int
  | [], vs, bs, h, e => by unfold Reps at h; subst h; cases e; rfl
  | x :: xs, vs, bs, h, e => by
    unfold Reps at h
    obtain ⟨v, r, rfl, a, b⟩ := h
    cases x with
    | int q =>
      unfold intsOf at e
      cases z : intsOf xs with
      | none => rw [z] at e; cases e
      | some ws =>
        rw [z] at e; cases e
        unfold Rep at a; subst a
        rw [intsOf_map b z]; rfl
    | _ => unfold intsOf at e; cases e
theorem pair1 {α β : Type} {R : α → β → Prop} {x : α} {vs : List β} (h : Paired R [x] vs) : ∃ v, vs = [v] ∧ R x v := by
  cases h with
  | cons r t => cases t; exact ⟨_, rfl, r⟩
theorem pair2 {α β : Type} {R : α → β → Prop} {x y : α} {vs : List β} (h : Paired R [x, y] vs) : ∃ v w, vs = [v, w] ∧ R x v ∧ R y w := by
  cases h with
  | cons r t =>
    cases t with
    | cons r2 t2 => cases t2; exact ⟨_, _, rfl, r, r2⟩
theorem useC {f : Value} {r : List V → Hp → VK → Prop} (h : CallR X f r) {pins : List (Addr × Obj)} {s : Shared} {σ : L2.St} {H : Hp} {xs : List V} {us : List Value} {Q : VK} (I : Inv X pins σ H s) (rx : Vals xs us) (q : r xs H Q) :
    wpAny (model X.prog X.w) X.A (call f us) (EP X pins σ Q) X.xe s := h pins s σ H xs us Q I rx q
theorem call_D (hc : X.calm = true) (f : B) : CallR X (bval f) (rB X.K Z W f) := by
  intro pins s σ H vs us Q I r h
  obtain ⟨F, σ', ds, sf, hv, p⟩ := h
  unfold bltD at p
  split at p
  · obtain ⟨v, rfl, h1⟩ := pair1 hv
    obtain ⟨a, ws, rfl, ha, ra⟩ := h1.lst
    exact useC call_len_seq I r ⟨a, ws, rfl, .inl (SqL.of ha), p.val sf (by rw [ra.length]; exact repInt)⟩
  · obtain ⟨v, rfl, h1⟩ := pair1 hv
    obtain ⟨a, ws, rfl, ha, ra⟩ := h1.scr sf
    exact useC call_len_seq I r ⟨a, ws, rfl, .inl ha, p.val sf (by rw [ra.length]; exact repInt)⟩
  · obtain ⟨v, rfl, h1⟩ := pair1 hv
    obtain ⟨a, ws, rfl, ha, ra⟩ := h1.tup sf
    exact useC call_len_seq I r ⟨a, ws, rfl, .inr ha, p.val sf (by rw [ra.length]; exact repInt)⟩
  · obtain ⟨v, rfl, h1⟩ := pair1 hv
    cases h1.str
    obtain ⟨c, p⟩ := guardM_ok (P := fun m => PostE X.K Z W m F H σ' Q) p (fun z => z)
    exact useC call_len_str I r ⟨_, rfl, by rw [← line_eq]; exact of_decide_eq_true c, p.val sf repInt⟩
  · obtain ⟨v, rfl, h1⟩ := pair1 hv
    cases h1.int
    exact useC call_abs I r ⟨_, rfl, p.val sf repInt⟩
  · obtain ⟨v, rfl, h1⟩ := pair1 hv
    cases h1.int
    exact useC call_int1 I r (.inl ⟨_, rfl, p.val sf repInt⟩)
  · obtain ⟨v, rfl, h1⟩ := pair1 hv
    cases h1.bl
    exact useC call_int1 I r (.inr ⟨_, rfl, p.val sf repInt⟩)
  · obtain ⟨v, w, rfl, h1, h2⟩ := pair2 hv
    cases h1.int; cases h2.int
    exact useC (call_max2 hc) I r ⟨_, _, rfl, p.val sf repInt⟩
  · obtain ⟨v, w, rfl, h1, h2⟩ := pair2 hv
    cases h1.int; cases h2.int
    exact useC (call_min2 hc) I r ⟨_, _, rfl, p.val sf repInt⟩
  · obtain ⟨v, rfl, h1⟩ := pair1 hv
    obtain ⟨a, ws, rfl, ha, ra⟩ := h1.lst
    obtain ⟨ns, en, p⟩ := M.ofO_ok (P := fun m => PostE X.K Z W m F H σ' Q) p (fun z => z)
    have e := intsOf_map ra en
    subst e
    exact useC (cr_sum hc) I r ⟨a, ns, rfl, SqL.of ha, p.val sf repInt⟩
  · obtain ⟨v, rfl, h1⟩ := pair1 hv
    obtain ⟨a, ws, rfl, ha, ra⟩ := h1.lst
    obtain ⟨ns, en, p⟩ := M.ofO_ok (P := fun m => PostE X.K Z W m F H σ' Q) p (fun z => z)
    have e := boolsOf_map ra en
    subst e
    exact useC (cr_all hc) I r ⟨a, ns, rfl, SqL.of ha, p.val sf repBl⟩
  · obtain ⟨v, rfl, h1⟩ := pair1 hv
    obtain ⟨a, ws, rfl, ha, ra⟩ := h1.lst
    obtain ⟨ns, en, p⟩ := M.ofO_ok (P := fun m => PostE X.K Z W m F H σ' Q) p (fun z => z)
    have e := boolsOf_map ra en
    subst e
    exact useC (cr_any hc) I r ⟨a, ns, rfl, SqL.of ha, p.val sf repBl⟩
  · obtain ⟨v, rfl, h1⟩ := pair1 hv
    obtain ⟨a, ws, rfl, ha, ra⟩ := h1.lst
    exact useC call_tuple_of I r ⟨a, ws, rfl, .inl ⟨SqL.of ha, fun q nq => p.tup sf ra q nq⟩⟩
  · obtain ⟨v, rfl, h1⟩ := pair1 hv
    have h0 := h1
    obtain ⟨a, ws, rfl, ha, ra⟩ := h1.tup sf
    exact useC call_tuple_of I r ⟨a, ws, rfl, .inr ⟨ha, p.val sf h0⟩⟩
  · obtain ⟨v, rfl, h1⟩ := pair1 hv
    obtain ⟨a, ws, rfl, ha, ra⟩ := h1.lst
    exact useC call_list_of I r ⟨a, ws, rfl, .inl (SqL.of ha), fun q nq => p.own sf ra q nq⟩
  · obtain ⟨v, rfl, h1⟩ := pair1 hv
    obtain ⟨a, ws, rfl, ha, ra⟩ := h1.tup sf
    exact useC call_list_of I r ⟨a, ws, rfl, .inr ha, fun q nq => p.own sf ra q nq⟩
  · obtain ⟨v, rfl, h1⟩ := pair1 hv
    cases h1.int
    obtain ⟨c, p⟩ := guardM_ok (P := fun m => PostE X.K Z W m F H σ' Q) p (fun z => z)
    exact useC call_str_int I r ⟨_, rfl, of_decide_eq_true c, p.val sf repStr⟩
  · exact p.elim
def tyName : Ty → String
  | .int => "int" | .bool => "bool" | .tuple => "tuple" | .list => "list" | .str => "str"
def tyS : Ty → Str
  | .int => "int" | .bool => "bool" | .tuple => "tuple" | .list => "list" | .str => "str"
theorem tyboot (t : Ty) : bootBuiltins (tyS t) = some (.type (tyName t)) := by cases t <;> decide +kernel
/-- the type of what is seen -/
def ofD : D → String
  | .non => "NoneType" | .bl _ => "bool" | .int _ => "int" | .str _ => "str" | .tup _ => "tuple" | .lst _ => "list" | .scr _ => "list"
theorem kit_D (t : Ty) (d : D) : kitB (ofD d) (tyName t) = some (isTy t d) := by
  cases d <;> cases t <;> simp only [ofD, tyName, isTy] <;> decide +kernel
theorem View.tyX {K : PySem.W.Frag} {F H : Hp} (sf : Same F H) : ∀ {d : D} {x : V}, View K F H d x → TyX K H x (.type (ofD d))
  | .non, x, h => by cases h.non; exact .base .non
  | .bl b, x, h => by cases h.bl; exact .base (.bl b)
  | .int b, x, h => by cases h.int; exact .base (.int b)
  | .str b, x, h => by cases h.str; exact .base (.str b)
  | .tup b, x, h => by
    obtain ⟨a, vs, rfl, q, _⟩ := h.tup sf
    rcases q with (q | ⟨o, q⟩) | ⟨o, its, n, q, c, _⟩
    · exact .base (.tup q)
    · exact .fTuple q
    · exact .kTuple q c
  | .scr b, x, h => by
    obtain ⟨a, vs, rfl, q, _⟩ := h.scr sf
    rcases q with (q | ⟨o, q⟩) | ⟨o, its, n, q, c, _⟩
    · exact .base (.lst q)
    · exact .base (.frz q)
    · exact .kList q c
  | .lst b, x, h => by
    obtain ⟨a, vs, rfl, q, _⟩ := h.lst
    exact .base (.lst q)
end

/-! ### what is asked of the syntax -/
mutual
def D.same : D → D → Bool
  | .non, .non => true
  | .bl a, .bl b => a == b
  | .int a, .int b => a == b
  | .str a, .str b => a == b
  | .tup xs, .tup ys => D.sames xs ys
  | .lst xs, .lst ys => D.sames xs ys
  | .scr xs, .scr ys => D.sames xs ys
  | _, _ => false
def D.sames : List D → List D → Bool
  | [], [] => true
  | x :: xs, y :: ys => D.same x y && D.sames xs ys
  | _, _ => false
end
mutual
theorem D.same_eq : ∀ (d e : D), D.same d e = true → d = e
  | .non, e, h => by cases e <;> simp [D.same] at h <;> rfl
  | .bl a, e, h => by cases e <;> simp [D.same] at h <;> subst h <;> rfl
  | .int a, e, h => by cases e <;> simp [D.same] at h <;> subst h <;> rfl
  | .str a, e, h => by cases e <;> simp [D.same] at h <;> subst h <;> rfl
  | .tup xs, e, h => by
    cases e <;> simp [D.same] at h
    rw [D.sames_eq _ _ h]
  | .lst xs, e, h => by
    cases e <;> simp [D.same] at h
    rw [D.sames_eq _ _ h]
  | .scr xs, e, h => by
    cases e <;> simp [D.same] at h
    rw [D.sames_eq _ _ h]
theorem D.sames_eq : ∀ (d e : List D), D.sames d e = true → d = e
  | [], e, h => by cases e <;> simp [D.sames] at h <;> rfl
  | x :: xs, e, h => by
    cases e with
    | nil => simp [D.sames] at h
    | cons y ys =>
      simp [D.sames] at h
      rw [D.same_eq _ _ h.1, D.sames_eq _ _ h.2]
end
/-- what is written of the whole text: the def's slots; the functions; the module's constants; the built-in names that nobody shadows; the errors -/
structure Stc where
  N : List Str
  fn : List (Nat × Str × Nat)
  gls : List (Str × D)
  blts : List Str
  exs : List (Nat × Str)
def okName (x : Str) : Bool := !(x == ("__debug__" : Str)) && !(x == ("__classdict__" : Str)) && !(x == ("__name__" : Str))
def glob (sc : Scope) (x : Str) : Bool := decide (sc.names.lookup x = some .globalImplicit)
def vis (sc : Scope) (x : Str) : Bool := match sc.names.lookup x with
  | some .local => true
  | some .cell => true
  | some .free => true
  | _ => false
def loc (sc : Scope) (x : Str) : Bool := match sc.names.lookup x with
  | some .local => true
  | some .cell => true
  | _ => false
def notStar : Expr → Bool
  | .Starred _ _ => false
  | _ => true
def notSlice : Expr → Bool
  | .Slice _ _ _ _ => false
  | _ => true
def notSet : Expr → Bool
  | .Set _ _ _ => false
  | _ => true
theorem starEach_of {e : Expr} {es : List Expr} {env : PySem.Env} (h : notStar e = true) : starEach (e :: es) env = (false, eval e env) :: starEach es env := by
  cases e <;> first | rfl | (simp [notStar] at h)
theorem plainIx_of {e : Expr} (h : notSlice e = true) : PlainIx e := by
  intro o i
  cases e <;> first | rfl | (simp [notSlice] at h)
theorem starEach_any {es : List Expr} {env : PySem.Env} {pos : Pos} (h : es.all notStar = true) : (backTo pos (starEach es env)).any (·.1) = false := by
  have e : ∀ es : List Expr, es.all notStar = true → (starEach es env).any (·.1) = false := by
    intro es
    induction es with
    | nil => intro _; rfl
    | cons x xs ih =>
      intro h
      rw [List.all_cons, Bool.and_eq_true] at h
      rw [starEach_of h.1, List.any_cons, ih h.2]
      rfl
  have b : ∀ l : List (Bool × Sem Value), l.any (·.1) = false → (backTo pos l).any (·.1) = false := by
    intro l h
    first
    | (unfold backTo; rw [List.any_map]; exact h)
    | (unfold backTo; simpa using h)
    | (induction l with
       | nil => rfl
       | cons x xs ih => simpa [backTo] using h)
  exact b _ (e es h)
end EV

set_option Elab.async false
set_option linter.all false
set_option autoImplicit false
set_option maxRecDepth 100000
set_option maxHeartbeats 8000000
/-! EvB4: expressions are what the evaluator says. -/
namespace EV
open PySem PySem.Spec PyProof.Rows L2

/-! ### the syntax, as it stands -/
def CmpOp.is (a b : CmpOp) : Bool := decide (a = b)
mutual
def chkTg (N : List Str) (sc : Scope) : Tg → Expr → Bool
  | .nm i, e => (match e with
    | .Name x _ => decide (N[i]? = some x) && loc sc x
    | _ => false)
  | .tup ts, e => (match e with
    | .Tuple es _ _ => chkTgs N sc ts es
    | _ => false)
def chkTgs (N : List Str) (sc : Scope) : List Tg → List Expr → Bool
  | [], es => (match es with | [] => true | _ => false)
  | t :: ts, es => (match es with
    | e :: es => notStar e && chkTg N sc t e && chkTgs N sc ts es
    | [] => false)
end
mutual
def tgIx : Tg → List Nat
  | .nm i => [i]
  | .tup ts => tgIxs ts
def tgIxs : List Tg → List Nat
  | [] => []
  | t :: ts => tgIx t ++ tgIxs ts
end
def tgIsTup : Expr → Bool
  | .Tuple _ _ _ => true
  | _ => false
def ownOf (N : List Str) : List Nat → List (Str × Nat)
  | [] => []
  | i :: is => ((N[i]?).getD "", i) :: ownOf N is
theorem ownOf_snd (N : List Str) : ∀ is, (ownOf N is).map (·.2) = is
  | [] => rfl
  | i :: is => by rw [ownOf, List.map_cons, ownOf_snd N is]
/-- may stand as a test -/
def testable : E → Bool
  | .ite _ _ _ => false
  | .not a => testable a
  | .and a b => testable a && testable b
  | .or a b => testable a && testable b
  | .one a => testable a
  | _ => true
section
variable (St : Stc) (calm : Bool)
/-- names of errors -/
def chkX (sc : Scope) : List Nat → List Expr → Bool
  | [], es => (match es with | [] => true | _ => false)
  | k :: ks, es => (match es with
    | .Name c _ :: es => glob sc c && okName c && decide ((k, c) ∈ St.exs) && chkX sc ks es
    | _ => false)
mutual
def chkE (sc : Scope) : E → Expr → Bool
  | .var i, e => (match e with
    | .Name x _ => decide (St.N[i]? = some x) && vis sc x && okName x
    | _ => false)
  | .k d, e => (match d, e with
    | .int i, .Constant (.int j) _ _ => decide (i = j)
    | .str s, .Constant (.str t) _ _ => decide (s = t)
    | .bl a, .Constant (.bool b) _ _ => decide (a = b)
    | .non, .Constant .none _ _ => true
    | _, _ => false)
  | .gl x d, e => (match e with
    | .Name y _ => glob sc y && okName y && St.gls.any fun p => decide (p.1 = y) && D.same p.2 d
    | _ => false)
  | .tup es, e => (match e with
    | .Tuple xs _ _ => chkEs sc es xs
    | _ => false)
  | .lst es, e => (match e with
    | .List xs _ => chkEs sc es xs
    | _ => false)
  | .op o a b, e => (match e with
    | .BinOp x p y _ => decide (p = o) && chkE sc a x && chkE sc b y
    | _ => false)
  | .neg a, e => (match e with
    | .UnaryOp .USub x _ => chkE sc a x
    | _ => false)
  | .not a, e => (match e with
    | .UnaryOp .Not x _ => chkE sc a x
    | _ => false)
  | .cmp o a b, e => (match e with
    | .Compare x [p] [y] _ => decide (p = o) && !behindInMarks p y && chkE sc a x && chkE sc b y
    | _ => false)
  | .chain o p a b c, e => (match e with
    | .Compare x [o', p'] [y, z] _ => decide (o' = o) && decide (p' = p) && !lastMarks [o', p'] [y, z] && chkE sc a x && chkE sc b y && chkE sc c z
    | _ => false)
  | .and a b, e => (match e with
    | .BoolOp .And (x :: y :: r) pos => chkE sc a x && chkE sc b (.BoolOp .And (y :: r) pos)
    | _ => false)
  | .or a b, e => (match e with
    | .BoolOp .Or (x :: y :: r) pos => chkE sc a x && chkE sc b (.BoolOp .Or (y :: r) pos)
    | _ => false)
  | .one a, e => (match e with
    | .BoolOp _ [x] _ => chkE sc a x
    | _ => false)
  | .ite c a b, e => (match e with
    | .IfExp t x y _ => testable c && chkE sc c t && chkE sc a x && chkE sc b y
    | _ => false)
  | .call f es, e => (match e with
    | .Call (.Name x _) xs [] _ => calm && glob sc x && okName x && xs.all notStar && (St.fn.any fun p => decide (p.1 = f) && decide (p.2.1 = x)) && chkEs sc es xs
    | _ => false)
  | .blt f es, e => (match e with
    | .Call (.Name x _) (y :: xs) [] _ => calm && glob sc x && okName x && (y :: xs).all notStar && decide (x = bname f) && decide (x ∈ St.blts) && chkEs sc es (y :: xs)
    | _ => false)
  | .ix a i, e => (match e with
    | .Subscript x y _ => notSlice y && chkE sc a x && chkE sc i y
    | _ => false)
  | .sl a lo hi, e => (match e with
    | .Subscript x (.Slice l h none _) _ => chkE sc a x && chkO sc lo l && chkO sc hi h
    | _ => false)
  | .isi a t, e => (match e with
    | .Call (.Name f _) [x, .Name y _] [] _ => decide (f = "isinstance") && glob sc f && decide (f ∈ St.blts) && glob sc y && okName y && decide (y = tyS t) && decide (y ∈ St.blts) && notStar x && chkE sc a x
    | _ => false)
  | .isx i cs, e => (match e with
    | .Call (.Name f _) [.Name x _, y] [] _ => decide (f = "isinstance") && glob sc f && decide (f ∈ St.blts) && decide (St.N[i]? = some x) && vis sc x && okName x && (match y, cs with
      | .Name c _, [k] => glob sc c && okName c && decide ((k, c) ∈ St.exs)
      | .Tuple ys _ _, cs => decide (cs.length ≤ 10) && chkX St sc cs ys
      | _, _ => false)
    | _ => false)
  | .lc vs tg it c x, e => (match e with
    | .ListComp elt [⟨t, iter, ifs, a⟩] scope _ => calm && decide (a = 0) && blkC St.N sc scope (ownOf St.N vs) && chkI sc it t iter && notSet iter && chkTg St.N scope tg t && ((tgIx tg).all fun i => decide (i ∈ vs)) && (match c, ifs with
      | none, [] => true
      | some c', [q] => testable c' && chkE (relS scope sc) c' q
      | _, _ => false) && chkE (relS scope sc) x elt
    | _ => false)
def chkO (sc : Scope) : Option E → Option Expr → Bool
  | none, none => true
  | some a, some x => chkE sc a x
  | _, _ => false
def chkEs (sc : Scope) : List E → List Expr → Bool
  | [], es => (match es with | [] => true | _ => false)
  | a :: as, es => (match es with
    | x :: xs => notStar x && chkE sc a x && chkEs sc as xs
    | [] => false)
def chkI (sc : Scope) : I → Expr → Expr → Bool
  | .seq e, _, x => chkE sc e x
  | .rng es, _, x => (match x with
    | .Call (.Name f _) [a] [] _ => calm && decide (f = "range") && glob sc f && decide (f ∈ St.blts) && (match es with | [_] => true | _ => false) && chkEs sc es [a]
    | .Call (.Name f _) [a, b] [] _ => calm && decide (f = "range") && glob sc f && decide (f ∈ St.blts) && (match es with | [_, _] => true | _ => false) && chkEs sc es [a, b]
    | _ => false)
  | .enum e, t, x => (match x with
    | .Call (.Name f _) [a] [] _ => decide (f = "enumerate") && glob sc f && decide (f ∈ St.blts) && tgIsTup t && notStar a && chkE sc e a
    | _ => false)
  | .zip a b, t, x => (match x with
    | .Call (.Name f _) [y, z] [] _ => decide (f = "zip") && glob sc f && decide (f ∈ St.blts) && tgIsTup t && notStar y && notStar z && chkE sc a y && chkE sc b z
    | _ => false)
end
end

/-! ### what a def promises -/
/-- f(..) gives what g gives, and leaves what stood -/
def spF (K : PySem.W.Frag) (cls : Nat → Value) (ar : Nat) (g : List D → M R) : Sp := fun vs H Q E => ∃ F ds, Same F H ∧ Reps K F ds vs ∧ ds.length = ar ∧ (match g ds with
  | .ok r => ∀ v F' H', Ext F H F' H' → RepR K H F' H' r v → Q v H'
  | .ex c => ∀ H', Same H H' → E (cls c) none H'
  | .bad => False)
/-- the reading of isinstance(e, ..), e the error that a suite holds -/
def rIsX (Z : Z0) (sub : Sub) (a : Addr) (c : Nat) : List V → Hp → VK → Prop := fun xs H Q =>
  (∃ (k : Nat) (C : Addr) (b : Bool), xs = [.ref a, .ref C] ∧ Z.cls k = .ref C ∧ sub c k = some b ∧ Q (.bl b) H) ∨
  (∃ (tp : Addr) (ks : List Nat) (Cs : List Addr) (b : Bool), xs = [.ref a, .ref tp] ∧ H tp = some (.tup (Cs.map V.ref)) ∧ ks.map Z.cls = Cs.map Value.ref ∧ anyO sub c ks = some b ∧ Q (.bl b) H)
/-- where an expression stands -/
structure Good (X : Cx) (St : Stc) (Z : Z0) (W : WX) (G : Env) (sub : Sub) (k : Nat) (calm : Bool) : Prop where
  N : X.N = St.N
  nd : X.N.Nodup
  tk : Takes X W
  calm : calm = true → X.calm = true ∧ Room k X.A ∧ Z.hx = none
  un : X.A.units + 65 < cLine
  fn : ∀ f g, G f = some g → ∃ x ar fa fd ps, (∀ p ∈ St.fn, p.1 = f → p.2.1 = x) ∧ X.mg x = some (.ref fa) ∧ PySem.W.keepIn X.K (.ref fa) = true ∧ Binds X.K fd ps [] ∧ ps.length = ar ∧ (∀ ds, g ds ≠ .bad → ds.length = ar) ∧ FnOk X.prog X.w X.K X.mg X.base (L2.CX X.prog X.w) k fa fd ps (spF X.K Z.cls ar g)
  blt : ∀ x ∈ St.blts, X.mg x = none
  exn : ∀ p ∈ St.exs, ∃ C, X.mg p.2 = some (.ref C) ∧ Z.cls p.1 = .ref C
  subx : ∀ c k b, sub c k = some b → PySem.W.exmOne X.K (Z.cls c) (Z.cls k) = some b ∧ PySem.W.kitOne X.K (Z.cls c) (Z.cls k) = some b
  isx : ∀ a c j, Z.hx = some (a, c, j) → CallR X (.builtin "isinstance") (rIsX Z sub a c)
  gl : ∀ p ∈ St.gls, ∃ u v, X.mg p.1 = some u ∧ L2.RelV v u ∧ ∀ F, Rep X.K F p.2 v

section
variable {K : PySem.W.Frag} {St : Stc} {Z : Z0} {G : Env} {sub : Sub} {k : Nat}
theorem okName_1 {x : Str} (h : okName x = true) : (x == ("__debug__" : Str)) = false := by
  unfold okName at h; simp only [Bool.and_eq_true, Bool.not_eq_true'] at h; exact h.1.1
theorem okName_2 {x : Str} (h : okName x = true) : (x == ("__classdict__" : Str)) = false := by
  unfold okName at h; simp only [Bool.and_eq_true, Bool.not_eq_true'] at h; exact h.1.2
theorem okName_3 {x : Str} (h : okName x = true) : x ≠ "__name__" := by
  unfold okName at h; simp only [Bool.and_eq_true, Bool.not_eq_true'] at h
  intro e; subst e; simp at h
theorem vis_of {sc : Scope} {x : Str} (h : vis sc x = true) : Vis sc x := by
  unfold vis at h
  unfold Vis
  split at h
  · exact .inl ‹_›
  · exact .inr (.inl ‹_›)
  · exact .inr (.inr ‹_›)
  · cases h
theorem loc_of {sc : Scope} {x : Str} (h : loc sc x = true) : L2.Loc sc x := by
  unfold loc at h
  unfold L2.Loc
  split at h
  · exact .inl ‹_›
  · exact .inr ‹_›
  · cases h
theorem okb {α β : Type} (a : α) (f : α → M β) : (M.ok a).bind f = f a := rfl
/-- weaker readings -/
theorem PE.imp {X : Cx} {e : Expr} {t t' : TE} (h : PE X e t) (i : ∀ σ H Q, t' σ H Q → t σ H Q) : PE X e t' := ⟨fun pins s σ H Q I q => h.run pins s σ H Q I (i σ H Q q)⟩
theorem PT.imp {X : Cx} {e : Expr} {t t' : TT} (h : PT X e t) (i : ∀ σ H Q, t' σ H Q → t σ H Q) : PT X e t' := ⟨fun pins s σ H Q I q => h.run pins s σ H Q I (i σ H Q q)⟩
theorem PW.imp {X : Cx} {e : Expr} {t t' : TT} (h : PW X e t) (i : ∀ σ H Q, t' σ H Q → t σ H Q) : PW X e t' := ⟨fun wh pins s σ H Q I q => h.run wh pins s σ H Q I (i σ H Q q)⟩
theorem PA.imp {X : Cx} {e : List Expr} {t t' : TA} (h : PA X e t) (i : ∀ σ H Q, t' σ H Q → t σ H Q) : PA X e t' := ⟨fun pos pins s σ H Q I q => h.run pos pins s σ H Q I (i σ H Q q)⟩
theorem PO.imp {X : Cx} {e : Option Expr} {t t' : TO} (h : PO X e t) (i : ∀ σ H Q, t' σ H Q → t σ H Q) : PO X e t' := ⟨fun pins s σ H Q I q => h.run pins s σ H Q I (i σ H Q q)⟩
theorem PI.imp {X : Cx} {tg e : Expr} {t t' : TI} (h : PI X tg e t) (i : ∀ σ H Q, t' σ H Q → t σ H Q) : PI X tg e t' := ⟨fun pins s σ H Q I q => h.run pins s σ H Q I (i σ H Q q)⟩
theorem PTs.imp {X : Cx} {e : List Expr} {t t' : TT} (h : PTs X e t) (i : ∀ σ H Q, t' σ H Q → t σ H Q) : PTs X e t' := ⟨fun pins s σ H Q I q => h.run pins s σ H Q I (i σ H Q q)⟩

/-- an expression, then what is done with it -/
theorem tE_bind {W : WX} {f : List S → M R} {g : List S → R → M R} {σ : L2.St} {H : Hp} {Q : VK} (h : tE K Z W (fun ss => (f ss).bind (g ss)) σ H Q) :
    tE K Z W f σ H fun v H1 => ∃ F ss r, Rel K Z F ss σ H1 ∧ View K F H1 r.view v ∧ (f ss = .ok r) ∧ PostE K Z W (g ss r) F H1 σ Q := by
  obtain ⟨F, ss, rel, p⟩ := h
  dsimp only at p
  refine ⟨F, ss, rel, ?_⟩
  cases e : f ss with
  | ok r =>
    rw [e] at p
    intro v F1 H1 x q
    exact ⟨F1, ss, r, rel.grow x, RepR.view x.sub q, e, PostE.grow p x⟩
  | ex c => rw [e] at p; exact p
  | bad => rw [e] at p; exact p.elim
theorem tE_two {W : WX} {a b : List S → M R} {f : D → D → M R} {σ : L2.St} {H : Hp} {Q : VK} (h : tE K Z W (fun ss => (a ss).bind fun x => (b ss).bind fun y => f x.view y.view) σ H Q) :
    tOp (rOp K Z W f) (tE K Z W a) (tE K Z W b) σ H Q := by
  obtain ⟨F, ss, rel, p⟩ := h
  dsimp only at p
  refine ⟨F, ss, rel, ?_⟩
  cases e : a ss with
  | ex c => rw [e] at p; exact p
  | bad => rw [e] at p; exact p.elim
  | ok x =>
    rw [e] at p
    intro v F1 H1 x1 q1
    have p1 : PostE K Z W ((b ss).bind fun y => f x.view y.view) F1 H1 σ Q := PostE.grow p x1
    refine ⟨F1, ss, rel.grow x1, ?_⟩
    cases e2 : b ss with
    | ex c => rw [e2] at p1; exact p1
    | bad => rw [e2] at p1; exact p1.elim
    | ok y =>
      rw [e2] at p1
      intro w F2 H2 x2 q2
      exact ⟨F2, σ, x.view, y.view, x2.sub, View.mono x2.sf x2.sh (RepR.view x1.sub q1), RepR.view x2.sub q2, PostE.grow p1 x2⟩

/-- a bool -/
theorem asBool_ok {α : Type} {r : R} {f : Bool → M α} {P : M α → Prop} (h : P ((asBool r).bind f)) (nb : ¬ P .bad) : ∃ b, r = .val (.bl b) ∧ P (f b) := by
  unfold asBool at h
  split at h
  · exact ⟨_, rfl, h⟩
  · exact absurd h nb
theorem asInt_ok {α : Type} {r : R} {f : Int → M α} {P : M α → Prop} (h : P ((asInt r).bind f)) (nb : ¬ P .bad) : ∃ b, r = .val (.int b) ∧ P (f b) := by
  unfold asInt at h
  split at h
  · exact ⟨_, rfl, h⟩
  · exact absurd h nb
theorem fix_ok {α : Type} {r : R} {f : D → M α} {P : M α → Prop} (h : P ((r.fix).bind f)) (nb : ¬ P .bad) : ∃ d, r.fix = .ok d ∧ P (f d) := by
  cases e : r.fix with
  | ok d => rw [e] at h; exact ⟨d, rfl, h⟩
  | ex c => cases r <;> simp [R.fix] at e
  | bad => rw [e] at h; exact absurd h nb
theorem chain_two {W : WX} {a b c : List S → M R} {f f' : D → D → M R} {σ : L2.St} {H : Hp} {Q : VK} (h : tE K Z W (fun ss => (a ss).bind fun x => (b ss).bind fun y => (f x.view y.view).bind fun z => (asBool z).bind fun t =>
      if t then (c ss).bind fun w => f' y.view w.view else .ok (.val (.bl false))) σ H Q) :
    tChain (rOp K Z W f) (rOp K Z W f') (tE K Z W a) (tE K Z W b) (tE K Z W c) σ H Q := by
  obtain ⟨F, ss, rel, p⟩ := h
  dsimp only at p
  refine ⟨F, ss, rel, ?_⟩
  cases e : a ss with
  | ex c => rw [e] at p; exact p
  | bad => rw [e] at p; exact p.elim
  | ok x =>
    rw [e] at p
    intro v F1 H1 x1 q1
    have p1 : PostE K Z W ((b ss).bind fun y => (f x.view y.view).bind fun z => (asBool z).bind fun t =>
      if t then (c ss).bind fun w => f' y.view w.view else .ok (.val (.bl false))) F1 H1 σ Q := PostE.grow p x1
    refine ⟨F1, ss, rel.grow x1, ?_⟩
    cases e2 : b ss with
    | ex c => rw [e2] at p1; exact p1
    | bad => rw [e2] at p1; exact p1.elim
    | ok y =>
      rw [e2] at p1
      intro w F2 H2 x2 q2
      have p2 : PostE K Z W ((f x.view y.view).bind fun z => (asBool z).bind fun t =>
        if t then (c ss).bind fun w => f' y.view w.view else .ok (.val (.bl false))) F2 H2 σ Q := PostE.grow p1 x2
      have vy := RepR.view x2.sub q2
      refine ⟨F2, σ, x.view, y.view, x2.sub, View.mono x2.sf x2.sh (RepR.view x1.sub q1), vy, ?_⟩
      cases e3 : f x.view y.view with
      | ex c => rw [e3] at p2; exact p2
      | bad => rw [e3] at p2; exact p2.elim
      | ok z =>
        rw [e3, okb] at p2
        intro zv F3 H3 x3 q3
        obtain ⟨t, rfl, pn⟩ := asBool_ok (P := fun m => PostE K Z W m F2 H2 σ Q) p2 (fun z => z)
        have q' : Rep K F3 (.bl t) zv := q3
        unfold Rep at q'
        refine ⟨t, q', ?_⟩
        cases t with
        | false => rw [if_neg Bool.false_ne_true]; rw [if_neg Bool.false_ne_true] at pn; exact (PostE.grow pn x3).val x3.sub repBl
        | true =>
          rw [if_pos rfl]; rw [if_pos rfl] at pn
          have p3 := PostE.grow pn x3
          refine ⟨F3, ss, ((rel.grow x1).grow x2).grow x3, ?_⟩
          cases e4 : c ss with
          | ex c => rw [e4] at p3; exact p3
          | bad => rw [e4] at p3; exact p3.elim
          | ok w' =>
            rw [e4] at p3
            intro wv F4 H4 x4 q4
            exact ⟨F4, σ, y.view, w'.view, x4.sub, View.mono (x3.sf.trans x4.sf) (x3.sh.trans x4.sh) vy, RepR.view x4.sub q4, PostE.grow p3 x4⟩
/-- an expression as a test -/
theorem tB_of {W : WX} {f : List S → M R} {σ : L2.St} {H : Hp} {Q : Bool → Hp → Prop} (h : tB K Z W (fun ss => (f ss).bind asBool) σ H Q) :
    tE K Z W f σ H fun v H1 => ∃ b, v = .bl b ∧ Q b H1 := by
  obtain ⟨F, ss, rel, p⟩ := h
  dsimp only at p
  refine ⟨F, ss, rel, ?_⟩
  cases e : f ss with
  | ok r =>
    rw [e] at p
    intro v F1 H1 x q
    cases r with
    | val d =>
      cases d with
      | bl b =>
        have q' : Rep K F1 (.bl b) v := q
        unfold Rep at q'
        exact ⟨b, q', p F1 H1 x⟩
      | _ => exact p.elim
    | _ => exact p.elim
  | ex c => rw [e] at p; exact p
  | bad => rw [e] at p; exact p.elim
end
end EV

set_option Elab.async false
set_option linter.all false
set_option autoImplicit false
set_option maxRecDepth 100000
set_option maxHeartbeats 8000000
/-! EvB5: expressions are what the evaluator says. -/
namespace EV
open PySem PySem.Spec PyProof.Rows L2

/-! ### targets -/
/-- the reading of a target -/
def gT (K : PySem.W.Frag) (Z : Z0) (tg : Tg) : TG := fun v σ H Q => ∃ F ss d ss', Rel K Z F ss σ H ∧ Rep K F d v ∧ asg tg d ss = some ss' ∧
  ∀ σ', Rel K Z F ss' σ' H → (∀ j, j ∉ tgIx tg → σ'[j]? = σ[j]?) → Q σ' H
def gTs (K : PySem.W.Frag) (Z : Z0) (tg : List Tg) : TGs := fun vs σ H Q => ∃ F ss ds ss', Rel K Z F ss σ H ∧ Reps K F ds vs ∧ asgs tg ds ss = some ss' ∧
  ∀ σ', Rel K Z F ss' σ' H → (∀ j, j ∉ tgIxs tg → σ'[j]? = σ[j]?) → Q σ' H
section
variable {St : Stc} {Z : Z0} {G : Env} {sub : Sub} {k : Nat}
theorem PG.imp {X : Cx} {e : Expr} {t t' : TG} (h : PG X e t) (i : ∀ v σ H Q, t' v σ H Q → t v σ H Q) : PG X e t' := ⟨fun pins s σ H v u Q I r q => h.run pins s σ H v u Q I r (i v σ H Q q)⟩
theorem PGs.imp {X : Cx} {e : List Expr} {t t' : TGs} (h : PGs X e t) (i : ∀ v σ H Q, t' v σ H Q → t v σ H Q) : PGs X e t' := ⟨fun pins s σ H v u Q I r q => h.run pins s σ H v u Q I r (i v σ H Q q)⟩
theorem assignEach_cons {e : Expr} {es : List Expr} {env : PySem.Env} (h : notStar e = true) : assignEach (e :: es) env = (false, assign e env) :: assignEach es env := by
  cases e <;> first | rfl | (simp [notStar] at h)
theorem assignEach_len {N : List Str} {sc : Scope} {env : PySem.Env} : ∀ {ts : List Tg} {es : List Expr}, chkTgs N sc ts es = true → (assignEach es env).length = ts.length ∧ (assignEach es env).findIdx? (·.1) = none
  | [], es, h => by
    unfold chkTgs at h
    split at h
    · exact ⟨rfl, rfl⟩
    · cases h
  | t :: ts, es, h => by
    unfold chkTgs at h
    split at h
    · simp only [Bool.and_eq_true] at h
      rw [assignEach_cons h.1.1]
      obtain ⟨a, b⟩ := assignEach_len (env := env) h.2
      refine ⟨by simp [a], ?_⟩
      rw [List.findIdx?_cons]
      simp [b]
    · cases h
mutual
theorem sndTg : ∀ (tg : Tg) {X : Cx} {sc : Scope} {e : Expr}, X.calm = true → X.N = St.N → X.N.Nodup → (∀ x, loc sc x = true → L2.Loc X.env.scope x ∧ (X.fn x = true ∨ X.env.scope.names.lookup x = some .local)) → chkTg St.N sc tg e = true → PG X e (gT X.K Z tg)
  | .nm i, X, sc, e, hc, hN, nd, hf, h => by
    unfold chkTg at h
    split at h
    · rename_i x pos
      simp only [Bool.and_eq_true, decide_eq_true_eq] at h
      have hl := hf x h.2
      refine PG.imp (pg_name (i := i) nd (by rw [hN]; exact h.1) hl.1 hl.2) fun v σ H Q q => ?_
      · obtain ⟨F, ss, d, ss', rel, rep, ea, k⟩ := q
        unfold asg at ea
        split at ea
        · cases ea
          refine k _ (rel.set rep) fun j nj => ?_
          rw [List.getElem?_set_ne]
          intro z; subst z
          exact nj (by simp [tgIx])
        · cases ea
    · cases h
  | .tup ts, X, sc, e, hc, hN, nd, hf, h => by
    unfold chkTg at h
    split at h
    · rename_i es kk pos
      obtain ⟨hl, hs⟩ := assignEach_len (env := X.env) h
      have hp := sndTgs ts hc hN nd hf h
      have A := pg_tup (k := kk) (pos := pos) hc hp hl hs
      have B := pg_lst (k := kk) (pos := pos) hc hp hl hs
      refine ⟨fun pins s σ H v u Q I r q => ?_⟩
      obtain ⟨F, ss, d, ss', rel, rep, ea, k⟩ := q
      cases d with
      | tup ds =>
        unfold asg at ea
        unfold Rep at rep
        obtain ⟨a, vs, rfl, q, rs⟩ := rep
        refine A.run pins s σ H _ u Q I r ⟨a, vs, rfl, Same.seqT rel.sub q, ?_, F, ss, ds, ss', rel, rs, ea, fun σ' r' n => k σ' r' (by simpa [tgIx] using n)⟩
        rw [← rs.length]
        exact asgs_len ea
      | lst ds =>
        unfold asg at ea
        unfold Rep at rep
        obtain ⟨a, vs, rfl, q, rs⟩ := rep
        refine B.run pins s σ H _ u Q I r ⟨a, vs, rfl, SqL.of (rel.sub _ _ q), ?_, F, ss, ds, ss', rel, rs, ea, fun σ' r' n => k σ' r' (by simpa [tgIx] using n)⟩
        rw [← rs.length]
        exact asgs_len ea
      | non => unfold asg at ea; cases ea
      | bl _ => unfold asg at ea; cases ea
      | int _ => unfold asg at ea; cases ea
      | str _ => unfold asg at ea; cases ea
      | scr _ => unfold asg at ea; cases ea
    · cases h
theorem sndTgs : ∀ (ts : List Tg) {X : Cx} {sc : Scope} {es : List Expr}, X.calm = true → X.N = St.N → X.N.Nodup → (∀ x, loc sc x = true → L2.Loc X.env.scope x ∧ (X.fn x = true ∨ X.env.scope.names.lookup x = some .local)) → chkTgs St.N sc ts es = true → PGs X es (gTs X.K Z ts)
  | [], X, sc, es, hc, hN, nd, hf, h => by
    unfold chkTgs at h
    split at h
    · refine PGs.imp pgs_nil fun vs σ H Q q => ?_
      obtain ⟨F, ss, ds, ss', rel, reps, ea, k⟩ := q
      cases ds with
      | nil =>
        unfold asgs at ea
        cases ea
        unfold Reps at reps
        exact ⟨reps, k σ rel fun _ _ => rfl⟩
      | cons d ds => unfold asgs at ea; cases ea
    · cases h
  | t :: ts, X, sc, es, hc, hN, nd, hf, h => by
    unfold chkTgs at h
    split at h
    · rename_i e es
      simp only [Bool.and_eq_true] at h
      have h1 := sndTg t hc hN nd hf h.1.2
      have h2 := sndTgs ts hc hN nd hf h.2
      refine PGs.imp (pgs_cons h1 h2 (by rw [assignEach_cons h.1.1]; rfl)) fun vs σ H Q q => ?_
      obtain ⟨F, ss, ds, ss', rel, reps, ea, k⟩ := q
      cases ds with
      | nil => unfold asgs at ea; cases ea
      | cons d ds =>
        unfold asgs at ea
        cases e1 : asg t d ss with
        | none => rw [e1] at ea; cases ea
        | some s1 =>
          rw [e1] at ea
          unfold Reps at reps
          obtain ⟨v, r, rfl, ra, rb⟩ := reps
          refine ⟨v, r, rfl, F, ss, d, s1, rel, ra, e1, fun σ1 rel1 n1 => ⟨F, s1, ds, ss', rel1, rb, ea, fun σ2 rel2 n2 => k σ2 rel2 fun j nj => ?_⟩⟩
          have nj' : j ∉ tgIx t ++ tgIxs ts := by simpa [tgIxs] using nj
          rw [n2 j (fun z => nj' (List.mem_append_right _ z)), n1 j (fun z => nj' (List.mem_append_left _ z))]
    · cases h
theorem asgs_len : ∀ {ts : List Tg} {ds : List D} {ss ss' : List S}, asgs ts ds ss = some ss' → ds.length = ts.length
  | [], [], _, _, _ => rfl
  | [], _ :: _, _, _, h => by unfold asgs at h; cases h
  | _ :: _, [], _, _, h => by unfold asgs at h; cases h
  | t :: ts, d :: ds, ss, ss', h => by
    unfold asgs at h
    cases e : asg t d ss with
    | none => rw [e] at h; cases h
    | some s1 =>
      rw [e] at h
      have := asgs_len (ts := ts) (ds := ds) h
      simp [this]
end
end
end EV

set_option Elab.async false
set_option linter.all false
set_option autoImplicit false
set_option maxRecDepth 100000
set_option maxHeartbeats 8000000
/-! EvB6: expressions are what the evaluator says. -/
namespace EV
open PySem PySem.Spec PyProof.Rows L2

/-- an iterator over data -/
def WalkD (K : PySem.W.Frag) (B F : Hp) (J : It) (xs : List D) : Prop :=
  Walk J xs.length (fun H => Same B H) fun i H x H' => ∀ F3, Same F F3 → Same F3 H → ∃ d F4, xs[i]? = some d ∧ Ext F3 H F4 H' ∧ Rep K F4 d x
def tI (K : PySem.W.Frag) (Z : Z0) (W : WX) (cm : List S → Bool) (f : List S → M (List D)) : TI := fun σ H R => ∃ F ss, Rel K Z F ss σ H ∧ (match f ss with
  | .ok xs => ∀ J F' H', Ext F H F' H' → WalkD K H' F' J xs → (cm ss = true → WalkD K F' F' J xs) → R J H'
  | .ex c => ∀ H', Same H H' → W (Z.cls c) none σ H'
  | .bad => False)
section
variable {K : PySem.W.Frag}
theorem walkD_mono {B B' F : Hp} {J : It} {xs : List D} (h : WalkD K B F J xs) (s : Same B B') : WalkD K B' F J xs :=
  Walk.mono h (fun H q => s.trans q) fun _ _ _ _ _ _ y => y
theorem walkD_seq {B F : Hp} {J : It} {xs : List D} {vs : List V} (r : Reps K F xs vs) {Gd : Hp → Prop} (w : Walk J vs.length Gd (YAt vs)) (g : ∀ H, Same B H → Gd H) : WalkD K B F J xs := by
  unfold WalkD
  rw [r.length]
  refine Walk.mono w g fun i H x H' hi q y F3 s1 s2 => ?_
  obtain ⟨rfl, e⟩ := y
  have hl : i < xs.length := by rw [r.length]; exact hi
  obtain ⟨v, h1, h2⟩ := r.get (List.getElem?_eq_getElem hl)
  rw [e] at h1
  cases h1
  exact ⟨xs[i], F3, List.getElem?_eq_getElem hl, Ext.refl s2, Rep.mono s1 _ _ h2⟩
theorem walkD_rng {B F : Hp} {lo hi : Int} : WalkD K B F (Itr lo (hi - lo).toNat) (rngL lo hi) := by
  unfold WalkD rngL
  rw [List.length_map, List.length_range]
  refine Walk.mono walk_range (fun _ _ => True.intro) fun i H x H' hi q y F3 s1 s2 => ?_
  obtain ⟨rfl, rfl⟩ := y
  refine ⟨.int (lo + i), F3, ?_, Ext.refl s2, repInt⟩
  rw [List.getElem?_map, List.getElem?_range hi]
  rfl
theorem pair_step {F3 H : Hp} {T : Addr} {x y : V} {d e : D} (s2 : Same F3 H) (n : H T = none) (h1 : Rep K F3 d x) (h2 : Rep K F3 e y) : ∃ F4, Ext F3 H F4 (upd H T (.tup [x, y])) ∧ Rep K F4 (.tup [d, e]) (.ref T) := by
  have sf : Same F3 (upd F3 T (.tup [x, y])) := same_upd (s2.free n)
  refine ⟨_, Ext.tup s2 n _, ?_⟩
  unfold Rep
  exact ⟨T, [x, y], rfl, SqT.of upd_same, Reps.mono sf _ _ (Reps.cons h1 (Reps.cons h2 Reps.nil))⟩
theorem enumL_len : ∀ (n : Nat) (xs : List D), (enumL n xs).length = xs.length
  | _, [] => rfl
  | n, x :: xs => by simp [enumL, enumL_len (n + 1) xs]
theorem enumL_get : ∀ (n : Nat) (xs : List D) (i : Nat), (enumL n xs)[i]? = xs[i]?.map fun x => .tup [.int ((n + i : Nat) : Int), x]
  | _, [], i => by simp [enumL]
  | n, x :: xs, 0 => by simp [enumL]
  | n, x :: xs, i + 1 => by
    rw [enumL, List.getElem?_cons_succ, List.getElem?_cons_succ, enumL_get (n + 1) xs i]
    have e : n + 1 + i = n + (i + 1) := by omega
    rw [e]
theorem walkD_enum {B F : Hp} {a : Addr} {xs : List D} {vs : List V} (r : Reps K F xs vs) (g : ∀ H, Same B H → SqL K H a vs) : WalkD K B F (Ite K a) (enumL 0 xs) := by
  unfold WalkD
  rw [enumL_len, r.length]
  refine Walk.mono walk_enum g fun i H x H' hi q y F3 s1 s2 => ?_
  obtain ⟨T, x1, x2, rfl, n, rfl, e1, e2⟩ := y
  cases e1
  have hl : i < xs.length := by rw [r.length]; exact hi
  obtain ⟨v, h1, h2⟩ := r.get (List.getElem?_eq_getElem hl)
  have e2' : vs[i]? = some x2 := e2
  rw [e2'] at h1
  cases h1
  obtain ⟨F4, h3, h4⟩ := pair_step (d := .int (i : Nat)) s2 n repInt (Rep.mono s1 _ _ h2)
  refine ⟨_, F4, ?_, h3, h4⟩
  rw [enumL_get, List.getElem?_eq_getElem hl, Nat.zero_add]
  rfl
theorem zipL_len (xs ys : List D) : (zipL xs ys).length = min xs.length ys.length := by simp [zipL]
theorem zip_step {F F3 H H' : Hp} {xs ys : List D} {us vs : List V} {i : Nat} {x : V} (ra : Reps K F xs us) (rb : Reps K F ys vs) (hi : i < min us.length vs.length) (s1 : Same F F3) (s2 : Same F3 H) (y : YPair (fun i => us[i]?) (fun i => vs[i]?) i H x H') :
    ∃ d F4, (zipL xs ys)[i]? = some d ∧ Ext F3 H F4 H' ∧ Rep K F4 d x := by
  obtain ⟨T, x1, x2, rfl, n, rfl, e1, e2⟩ := y
  have hl : i < xs.length := by rw [ra.length]; omega
  have hl2 : i < ys.length := by rw [rb.length]; omega
  obtain ⟨v, h1, h2⟩ := ra.get (List.getElem?_eq_getElem hl)
  obtain ⟨w, h3, h4⟩ := rb.get (List.getElem?_eq_getElem hl2)
  have e1' : us[i]? = some x1 := e1
  have e2' : vs[i]? = some x2 := e2
  rw [e1'] at h1; cases h1
  rw [e2'] at h3; cases h3
  obtain ⟨F4, h5, h6⟩ := pair_step s2 n (Rep.mono s1 _ _ h2) (Rep.mono s1 _ _ h4)
  refine ⟨_, F4, ?_, h5, h6⟩
  unfold zipL
  rw [List.getElem?_zipWith, List.getElem?_eq_getElem hl, List.getElem?_eq_getElem hl2]
theorem walkD_zipL {B F : Hp} {a b : Addr} {xs ys : List D} {us vs : List V} (ra : Reps K F xs us) (rb : Reps K F ys vs) (g : ∀ H, Same B H → SqL K H a us ∧ SqL K H b vs) : WalkD K B F (Itz K a b) (zipL xs ys) := by
  unfold WalkD
  rw [zipL_len, ra.length, rb.length]
  exact Walk.mono (walk_zip rfl) g fun i H x H' hi q y F3 s1 s2 => zip_step ra rb hi s1 s2 y
theorem walk_zipT {a b : Addr} {xs ys : List V} {n : Nat} (hn : n = min xs.length ys.length) : Walk (RZ.ItzT K a b) n (fun H => SqT K H a xs ∧ SqT K H b ys) (YPair (fun i => xs[i]?) (fun i => ys[i]?)) := by
  subst hn
  refine ⟨fun i _ hi q => ?_, fun _ q => ⟨xs, ys, q.1, q.2, by omega⟩, fun i H v H' _ q y => ?_⟩
  · have h1 : i < xs.length := by omega
    have h2 : i < ys.length := by omega
    exact ⟨xs, ys, xs[i], ys[i], q.1, q.2, by simp [h1], by simp [h2]⟩
  · obtain ⟨T, x, z, h1, h2, h3, h4, h5⟩ := y
    exact ⟨T, x, z, h1, h2, h3, h4 xs q.1, h5 ys q.2⟩
theorem walkD_zipT {B F : Hp} {a b : Addr} {xs ys : List D} {us vs : List V} (ra : Reps K F xs us) (rb : Reps K F ys vs) (g : ∀ H, Same B H → SqT K H a us ∧ SqT K H b vs) : WalkD K B F (RZ.ItzT K a b) (zipL xs ys) := by
  unfold WalkD
  rw [zipL_len, ra.length, rb.length]
  exact Walk.mono (walk_zipT rfl) g fun i H x H' hi q y F3 s1 s2 => zip_step ra rb hi s1 s2 y
end

def plainTest : Expr → Bool
  | .UnaryOp .Not _ _ => false
  | .BoolOp _ _ _ => false
  | .IfExp _ _ _ _ => false
  | .Compare _ _ _ _ => false
  | _ => true
theorem plainTest_of {e : Expr} {env : PySem.Env} (h : plainTest e = true) : ∀ whole, isTrue e env whole = (do let v ← whole; standAt e.pos; holding [v] (truthy v)) := by
  intro whole
  cases e with
  | UnaryOp op a p => cases op <;> first | rfl | (simp [plainTest] at h)
  | BoolOp _ _ _ => simp [plainTest] at h
  | IfExp _ _ _ _ => simp [plainTest] at h
  | Compare _ _ _ _ => simp [plainTest] at h
  | _ => rfl
theorem notSet_of {e : Expr} {env : PySem.Env} (h : notSet e = true) : ∀ x, foldedSetIterable e env x = pure x := by
  intro x
  cases e <;> first | rfl | (simp [notSet] at h)
theorem loc_relS {sc scope : Scope} {y : Str} (h : loc scope y = true) : L2.Loc (relS scope sc) y ∧ ((scope.names.lookup y == some .cell) = true ∨ (relS scope sc).names.lookup y = some .local) := by
  rcases loc_of h with z | z
  · have e : (relS scope sc).names.lookup y = some .local := lookup_relS_keep (sc := sc) (by decide) z
    exact ⟨.inl e, .inr e⟩
  · have e : (relS scope sc).names.lookup y = some .cell := lookup_relS_keep (sc := sc) (by decide) z
    exact ⟨.inr e, .inl (by rw [z]; rfl)⟩
abbrev W0 : WX := fun _ _ _ _ => False
section
variable {St : Stc} {Z : Z0} {G : Env} {sub : Sub} {k : Nat} {calm : Bool}
theorem Good.blk {X : Cx} {W : WX} (g : Good X St Z W G sub k calm) (hx : Z.hx = none) (s : Shared) (H : Hp) (scope : Scope) (cenv : PySem.Env) (fp : List Addr) : Good (X.blk s H scope cenv fp) St Z W0 G sub k calm :=
  ⟨g.N, g.nd, takes0, g.calm, g.un, g.fn, g.blt, g.exn, g.subx, (fun a c j z => by rw [hx] at z; cases z), g.gl⟩
theorem lcL_cons {f : D → M (Option D)} {x : D} {r : List D} {ys : List D} (h : lcL f (x :: r) = .ok ys) : ∃ o rest, f x = .ok o ∧ lcL f r = .ok rest ∧ ys = (match o with | some y => y :: rest | none => rest) := by
  unfold lcL at h
  cases e : f x with
  | ok o =>
    rw [e] at h
    cases e2 : lcL f r with
    | ok rest =>
      rw [e2] at h
      simp only [M.bind] at h
      exact ⟨o, rest, rfl, rfl, (M.ok.inj h).symm⟩
    | ex c => rw [e2] at h; simp [M.bind] at h
    | bad => rw [e2] at h; simp [M.bind] at h
  | ex c => rw [e] at h; simp [M.bind] at h
  | bad => rw [e] at h; simp [M.bind] at h
theorem calm_ok {α : Type} {m : M α} {P : M α → Prop} {β : Type} {f : α → M β} {R : M β → Prop} (h : R ((M.calm m).bind f)) (nb : ¬ R .bad) : ∃ a, m = .ok a ∧ R (f a) := by
  cases m with
  | ok a => exact ⟨a, rfl, h⟩
  | ex c => exact absurd h nb
  | bad => exact absurd h nb
theorem lcL_len {f : D → M (Option D)} : ∀ {xs ys : List D}, lcL f xs = .ok ys → ys.length ≤ xs.length
  | [], ys, h => by unfold lcL at h; cases M.ok.inj h; exact Nat.le_refl _
  | x :: xs, ys, h => by
    obtain ⟨o, rest, h1, h2, rfl⟩ := lcL_cons h
    have := lcL_len h2
    cases o <;> simp <;> omega
/-- a new list's heap is written -/
theorem Ext.put {F1 H1 F H : Hp} {D : Addr} {o : HO} (x : Ext F1 H1 F H) (n : H1 D = none) (f : F D = none) : Ext F1 H1 F (upd H D o) :=
  ⟨fun b u e => by rw [upd_ne (ne_of_none e n)]; exact x.sh b u e, x.sf, x.new, fun b u e => by rw [upd_ne (ne_of_none e f)]; exact x.sub b u e⟩
mutual
theorem asg_len : ∀ {tg : Tg} {d : D} {ss ss' : List S}, asg tg d ss = some ss' → ss'.length = ss.length
  | .nm i, d, ss, ss', h => by
    unfold asg at h
    split at h
    · cases h; simp
    · cases h
  | .tup ts, d, ss, ss', h => by
    cases d with
    | tup ds => unfold asg at h; exact asgs_lenS h
    | lst ds => unfold asg at h; exact asgs_lenS h
    | _ => unfold asg at h; cases h
theorem asgs_lenS : ∀ {ts : List Tg} {ds : List D} {ss ss' : List S}, asgs ts ds ss = some ss' → ss'.length = ss.length
  | [], [], _, _, h => by unfold asgs at h; cases h; rfl
  | [], _ :: _, _, _, h => by unfold asgs at h; cases h
  | _ :: _, [], _, _, h => by unfold asgs at h; cases h
  | t :: ts, d :: ds, ss, ss', h => by
    unfold asgs at h
    cases e : asg t d ss with
    | none => rw [e] at h; cases h
    | some s1 =>
      rw [e] at h
      rw [asgs_lenS (ts := ts) (ds := ds) (ss := s1) h, asg_len e]
end
/-- the comprehension, from its parts -/
theorem lc_snd {X : Cx} {W : WX} {vs : List Nat} {tg : Tg} {c : Option E} {x : E} {fi : List S → M (List D)} {cm : List S → Bool} (htg : ((tgIx tg).all fun i => decide (i ∈ vs)) = true)
    {σ : L2.St} {H : Hp} {Q : VK} (h : tE X.K Z W (fun ss => (fi ss).bind fun ds => guardM (decide (ds.length ≤ line)) ((M.calm (lcL (fun d => lcI (asg tg d (wipe ss vs)) fun ss' => (evC G sub c ss').bind fun b => if b then (evE G sub x ss').bind fun r => (r.fix).bind fun y => .ok (some y) else .ok none) ds)).bind fun ys => .ok (.own ys))) σ H Q) :
    tLc (tI X.K Z W cm fi) (gT X.K Z tg) (tB X.K Z W0 (evC G sub c)) (tE X.K Z W0 (evE G sub x)) vs σ H Q := by
  obtain ⟨F, ss, rel, p⟩ := h
  refine ⟨F, ss, rel, ?_⟩
  dsimp only at p
  cases e : fi ss with
  | ex c => rw [e] at p; exact p
  | bad => rw [e] at p; exact p.elim
  | ok ds =>
    rw [e] at p
    intro J F1 H1 x1 wk _ D nD
    obtain ⟨hlen, p⟩ := guardM_ok (P := fun m => PostE X.K Z W m F H σ Q) p (fun z => z)
    obtain ⟨ys, hys, p⟩ := calm_ok (P := fun _ => True) (R := fun m => PostE X.K Z W m F H σ Q) p (fun z => z)
    have p1 := PostE.grow p x1
    have relW : Rel X.K Z F1 (EV.wipe ss vs) (L2.wipe σ vs) H1 := (rel.grow x1).wipe vs
    have fD : F1 D = none := x1.sub.free nD
    have hl : ds.length ≤ line := of_decide_eq_true hlen
    have rp := lc_it wk (g := gT X.K Z tg) (tt := tB X.K Z W0 (evC G sub c)) (te := tE X.K Z W0 (evE G sub x)) (vs := vs) (σ := σ) (H1 := H1) (D := D) (Qd := fun H => Q (.ref D) H)
      (fun i H => ∃ F3 acc ws rest, Ext F1 H1 F3 H ∧ H D = some (.lst ws) ∧ F3 D = none ∧ Reps X.K F3 acc ws ∧ acc.length ≤ i ∧ ys = acc ++ rest ∧ lcL (fun d => lcI (asg tg d (wipe ss vs)) fun ss' => (evC G sub c ss').bind fun b => if b then (evE G sub x ss').bind fun r => (r.fix).bind fun y => .ok (some y) else .ok none) (ds.drop i) = .ok rest)
      ⟨F1, [], [], ys, (Ext.refl x1.sub).put nD fD, upd_same, fD, Reps.nil, Nat.zero_le _, rfl, by simpa using hys⟩
      (fun i H _ ⟨F3, acc, ws, rest, h1, _⟩ => h1.sh) ?_ ?_
    · exact rp
    · rintro i v H3 H4 hi ⟨F3, acc, ws, rest, h1, h2, h3, h4, h5, h6, h7⟩ y
      obtain ⟨d, F4, hd, h8, h9⟩ := y F3 h1.sf h1.sub
      have hdrop : ds.drop i = d :: ds.drop (i + 1) := by
        rw [List.drop_eq_getElem_cons hi]
        rw [List.getElem?_eq_getElem hi] at hd
        cases hd; rfl
      rw [hdrop] at h7
      obtain ⟨o, rest', q1, q2, q3⟩ := lcL_cons h7
      have x4 : Ext F1 H1 F4 H4 := h1.trans h8
      have D4 : H4 D = some (.lst ws) := h8.sh _ _ h2
      have fD4 : F4 D = none := h8.new _ _ h3 h2
      cases ea : asg tg d (wipe ss vs) with
      | none => rw [ea] at q1; cases q1
      | some ss' =>
        rw [ea] at q1
        dsimp only [lcI] at q1
        refine ⟨F4, wipe ss vs, d, ss', relW.grow x4, h9, ea, fun σ2 rel2 n2 => ⟨?_, F4, ss', rel2, ?_⟩⟩
        · have hv : ∀ (vs : List Nat) (σ : L2.St) (j : Nat), j ∈ vs → (L2.wipe σ vs)[j]? = if j < σ.length then some none else none := by
            intro vs
            induction vs with
            | nil => intro σ j h; cases h
            | cons v vs ih =>
              intro σ j h
              unfold L2.wipe
              by_cases e : v = j
              · subst e
                by_cases hl : v < σ.length
                · rw [List.getElem?_set_self (by rw [wipe_length]; exact hl), if_pos hl]
                · rw [if_neg hl, List.getElem?_eq_none (by rw [List.length_set, wipe_length]; omega)]
              · rw [List.getElem?_set_ne e]
                exact ih σ j (by
                  rcases List.mem_cons.mp h with z | z
                  · exact absurd z.symm e
                  · exact z)
          have lw : σ2.length = σ.length := by
            rw [← rel2.len]
            have : ss'.length = (wipe ss vs).length := asg_len ea
            rw [this, relW.len, wipe_length]
          apply List.ext_getElem?
          intro j
          by_cases hj : j ∈ vs
          · rw [hv vs σ2 j hj, hv vs σ j hj, lw]
          · rw [wipe_out hj, wipe_out hj]
            have nj : j ∉ tgIx tg := fun z => hj (of_decide_eq_true (List.all_eq_true.mp htg j z))
            rw [n2 j nj, wipe_out hj]
        · cases ec : evC G sub c ss' with
          | ex c => rw [ec] at q1; cases q1
          | bad => rw [ec] at q1; cases q1
          | ok b =>
            rw [ec] at q1
            simp only [M.bind] at q1
            intro F5 H5 x5
            have x15 := x4.trans x5
            cases b with
            | false =>
              rw [if_neg Bool.false_ne_true]
              simp only [Bool.false_eq_true, if_false] at q1
              cases q1
              subst q3
              exact ⟨F5, acc, ws, _, x15, x5.sh _ _ D4, x5.new _ _ fD4 D4, Reps.mono (h8.sf.trans x5.sf) _ _ h4, by omega, h6, q2⟩
            | true =>
              rw [if_pos rfl]
              simp only [if_true] at q1
              refine ⟨F5, ss', rel2.grow x5, ?_⟩
              cases ee : evE G sub x ss' with
              | ex c => rw [ee] at q1; cases q1
              | bad => rw [ee] at q1; cases q1
              | ok r =>
                rw [ee] at q1
                simp only [M.bind] at q1
                intro z F6 H6 x6 r6
                cases ef : r.fix with
                | ex c => rw [ef] at q1; cases q1
                | bad => rw [ef] at q1; cases q1
                | ok y =>
                  rw [ef] at q1
                  cases q1
                  dsimp only at q3
                  subst q3
                  obtain ⟨F7, x7, r7, s7⟩ := RepR.fixE x6 r6 ef
                  have x17 := x15.trans x7
                  have D5 := x5.sh _ _ D4
                  have fD5 := x5.new _ _ fD4 D4
                  have fD7 := x7.new _ _ fD5 D5
                  have D6 := x7.sh _ _ D5
                  have rw7 : Reps X.K F7 acc ws := Reps.mono ((h8.sf.trans x5.sf).trans x7.sf) _ _ h4
                  refine ⟨ws, D6, ?_, F7, acc ++ [y], ws ++ [z], rest', x17.put nD fD7, upd_same, fD7, Reps.append rw7 (Reps.cons r7 Reps.nil), ?_, ?_, q2⟩
                  · rw [← rw7.length, ← line_eq]
                    have := h6
                    have hle := lcL_len hys
                    rw [h6] at hle
                    simp at hle
                    omega
                  · simp; omega
                  · rw [h6]; simp
    · rintro H3 ⟨F3, acc, ws, rest, h1, h2, h3, h4, h5, h6, h7⟩
      rw [List.drop_length] at h7
      unfold lcL at h7
      cases M.ok.inj h7
      rw [List.append_nil] at h6
      subst h6
      exact p1 (.ref D) F3 H3 h1 ⟨D, ws, rfl, h2, h3, nD, h4⟩
end
end EV

set_option Elab.async false
set_option linter.all false
set_option autoImplicit false
set_option maxRecDepth 100000
set_option maxHeartbeats 16000000
/-! EvB7: expressions are what the evaluator says. -/
namespace EV
open PySem PySem.Spec PyProof.Rows L2
section
variable {St : Stc} {Z : Z0} {G : Env} {sub : Sub} {k : Nat} {calm : Bool}
theorem glob_of {X : Cx} {x : Str} (h : glob X.env.scope x = true) : Gl X x := of_decide_eq_true (p := X.env.scope.names.lookup x = some .globalImplicit) h
theorem Good.fnAt {X : Cx} {W : WX} (g : Good X St Z W G sub k calm) {f : Nat} {x : Str} {gg : List D → M R} (hf : (St.fn.any fun p => decide (p.1 = f) && decide (p.2.1 = x)) = true) (e : G f = some gg) :
    ∃ ar fa fd ps, X.mg x = some (.ref fa) ∧ PySem.W.keepIn X.K (.ref fa) = true ∧ Binds X.K fd ps [] ∧ ps.length = ar ∧ (∀ ds, gg ds ≠ .bad → ds.length = ar) ∧ FnOk X.prog X.w X.K X.mg X.base (L2.CX X.prog X.w) k fa fd ps (spF X.K Z.cls ar gg) := by
  obtain ⟨x', ar, fa, fd, ps, h1, h2, h3, h4, h5, h6⟩ := g.fn f gg e
  obtain ⟨pr, hm, hp⟩ := List.any_eq_true.mp hf
  simp only [Bool.and_eq_true, decide_eq_true_eq] at hp
  have e2 := h1 pr hm hp.1
  rw [hp.2] at e2
  subst e2
  exact ⟨ar, fa, fd, ps, h2, h3, h4, h5, h6⟩
/-- what a def's promise asks, of arguments that are there -/
theorem sp_of {X : Cx} {W : WX} {gg : List D → M R} {ar : Nat} (hl : ∀ ds, gg ds ≠ .bad → ds.length = ar) {ds : List D} {vs : List V} {F H : Hp} {σ : L2.St} {Q : VK} (s : Same F H) (rs : Reps X.K F ds vs) (q : PostE X.K Z W (gg ds) F H σ Q) :
    spF X.K Z.cls ar gg vs H Q (WE W σ) := by
  refine ⟨F, ds, s, rs, hl ds fun z => ?_, ?_⟩
  · rw [z] at q; exact q
  · cases e : gg ds with
    | ok r => rw [e] at q; exact q
    | ex c => rw [e] at q; exact q
    | bad => rw [e] at q; exact q
/-- f(a, ..) of a def of the text -/
theorem pe_fn {X : Cx} {W : WX} {f : Nat} {x : Str} {p pos : Pos} {e0 : Expr} {es : List Expr} {te : List S → M (List D)} (g : Good X St Z W G sub k calm) (hc : calm = true) (hg : glob X.env.scope x = true) (hn : okName x = true) (hs : (e0 :: es).all notStar = true)
    (hf : (St.fn.any fun p => decide (p.1 = f) && decide (p.2.1 = x)) = true) (ha : PA X (e0 :: es) (tDs X.K Z W te)) :
    PE X (.Call (.Name x p) (e0 :: es) [] pos) (tE X.K Z W fun ss => callG (G f) (te ss)) := by
  refine ⟨fun pins s σ H Q I h => ?_⟩
  obtain ⟨F, ss, rel, q⟩ := h
  dsimp only at q
  obtain ⟨hcalm, hr, _⟩ := g.calm hc
  cases eg : G f with
  | none => rw [eg] at q; exact q.elim
  | some gg =>
    rw [eg] at q
    dsimp only [callG] at q
    obtain ⟨ar, fa, fd, ps, h2, h3, h4, h5, h5', h6⟩ := g.fnAt hf eg
    have big : tDs X.K Z W te σ H fun vs H1 => spF X.K Z.cls ar gg vs H1 Q (WE W σ) := by
      refine ⟨F, ss, rel, ?_⟩
      cases e : te ss with
      | ok ds =>
        rw [e] at q
        intro vs F1 H1 x1 rs
        exact sp_of h5' x1.sub rs (PostE.grow q x1)
      | ex c => rw [e] at q; exact q
      | bad => rw [e] at q; exact q.elim
    rw [List.all_cons, Bool.and_eq_true] at hs
    exact (pe_callS h6 hr (glob_of hg) h2 h3 h4 (fun σ => passAt g.tk σ) ha (okName_1 hn) (starEach_of hs.1) (starEach_any hs.2)).run pins s σ H Q I big
/-- f() -/
theorem pe_fn0 {X : Cx} {W : WX} {f : Nat} {x : Str} {p pos : Pos} (g : Good X St Z W G sub k calm) (hc : calm = true) (hg : glob X.env.scope x = true) (hn : okName x = true)
    (hf : (St.fn.any fun p => decide (p.1 = f) && decide (p.2.1 = x)) = true) :
    PE X (.Call (.Name x p) [] [] pos) (tE X.K Z W fun ss => callG (G f) (M.ok [])) := by
  refine ⟨fun pins s σ H Q I h => ?_⟩
  obtain ⟨F, ss, rel, q⟩ := h
  dsimp only at q
  obtain ⟨hcalm, hr, _⟩ := g.calm hc
  cases eg : G f with
  | none => rw [eg] at q; exact q.elim
  | some gg =>
    rw [eg] at q
    obtain ⟨ar, fa, fd, ps, h2, h3, h4, h5, h5', h6⟩ := g.fnAt hf eg
    refine wpAny_Call_Name_kw (ld_glob I (glob_of hg) h2 ?_ (okName_1 hn))
    exact PySem.W.callWith_K0 I.kIn h3 (run_fnS (us := []) (E := fun σ => WE W σ) h6 hr h4 (passAt g.tk σ) I .nil (sp_of h5' rel.sub Reps.nil q))
/-- a comparison, an operator: both sides -/
theorem reps_of {K : PySem.W.Frag} {F H : Hp} : ∀ {rs : List R} {vs : List V} {H0 : Hp}, Same F H → Paired (RepR K H0 F H) rs vs → Paired (View K F H) (rs.map R.view) vs
  | [], _, _, _, .nil => .nil
  | _ :: _, _, _, s, .cons r t => .cons (RepR.view s r) (reps_of s t)
theorem evF_len : ∀ {es : List E} {ss : List S} {ds : List D}, evF G sub es ss = .ok ds → ds.length = es.length
  | [], ss, ds, h => by unfold evF at h; cases h; rfl
  | e :: es, ss, ds, h => by
    unfold evF at h
    cases e1 : evE G sub e ss with
    | ok r =>
      rw [e1, okb] at h
      cases e2 : r.fix with
      | ok d =>
        rw [e2, okb] at h
        cases e3 : evF G sub es ss with
        | ok ds' => rw [e3, okb] at h; cases h; simp [evF_len e3]
        | ex c => rw [e3] at h; cases h
        | bad => rw [e3] at h; cases h
      | ex c => rw [e2] at h; cases h
      | bad => rw [e2] at h; cases h
    | ex c => rw [e1] at h; cases h
    | bad => rw [e1] at h; cases h
theorem pa_nilD {X : Cx} {W : WX} : PA X [] (tDs X.K Z W (evF G sub [])) := PA.imp pa_nil fun σ H Q ⟨F, ss, rel, p⟩ => by unfold evF at p; exact p [] F H (Ext.refl rel.sub) Reps.nil
theorem pa_consD {X : Cx} {W : WX} {a : E} {as : List E} {x : Expr} {xs : List Expr} (hs : notStar x = true) (ha : PE X x (tE X.K Z W (evE G sub a))) (hr : PA X xs (tDs X.K Z W (evF G sub as))) : PA X (x :: xs) (tDs X.K Z W (evF G sub (a :: as))) := by
      refine PA.imp (pa_cons ha hr (starEach_of hs)) fun σ H Q ⟨F, ss, rel, p⟩ => ⟨F, ss, rel, ?_⟩
      unfold evF at p
      cases e : evE G sub a ss with
      | ok r =>
        rw [e, okb] at p
        intro v F1 H1 x q
        cases ef : r.fix with
        | ok d =>
          rw [ef, okb] at p
          obtain ⟨F2, x2, r2, s2⟩ := RepR.fixE x q ef
          have p2 := PostDs.grow p x2
          refine ⟨F2, ss, rel.grow x2, ?_⟩
          cases e2 : evF G sub as ss with
          | ok ds =>
            rw [e2, okb] at p2
            intro vs F3 H3 x3 rs
            exact p2 (v :: vs) F3 H3 x3 (Reps.cons (Rep.mono x3.sf _ _ r2) rs)
          | ex c => rw [e2] at p2; exact p2
          | bad => rw [e2] at p2; exact p2.elim
        | ex c => cases r <;> simp [R.fix] at ef
        | bad => rw [ef] at p; exact p.elim
      | ex c => rw [e] at p; exact p
      | bad => rw [e] at p; exact p.elim
theorem sndX {X : Cx} {W : WX} (g : Good X St Z W G sub k calm) : ∀ (cs : List Nat) {es : List Expr}, chkX St X.env.scope cs es = true → ∃ Cs : List Addr, cs.map Z.cls = Cs.map Value.ref ∧ PA X es (fun _ H Q => Q (Cs.map V.ref) H)
  | [], es, h => by
    unfold chkX at h
    split at h
    · exact ⟨[], rfl, PA.imp pa_nil fun σ H Q q => q⟩
    · cases h
  | k :: ks, es, h => by
    unfold chkX at h
    split at h
    · rename_i c pc es
      simp only [Bool.and_eq_true, decide_eq_true_eq] at h
      obtain ⟨Cs, h1, h2⟩ := sndX g ks h.2
      obtain ⟨D, hD, hcl⟩ := g.exn _ h.1.2
      refine ⟨D :: Cs, by simp [h1, hcl], PA.imp (pa_cons (pe_glob (pos := pc) (glob_of h.1.1.1) hD (show L2.RelV (.ref D) (.ref D) from rfl) (okName_1 h.1.1.2)) h2) fun σ H Q q => q⟩
    · cases h
mutual
theorem sndE : ∀ (a : E) {X : Cx} {W : WX} {e : Expr}, Good X St Z W G sub k calm → chkE St calm X.env.scope a e = true → PE X e (tE X.K Z W (evE G sub a))
  | .var i, X, W, e, g, h => by
    unfold chkE at h
    split at h
    · rename_i x pos
      simp only [Bool.and_eq_true, decide_eq_true_eq] at h
      refine PE.imp (pe_var (i := i) (by rw [g.N]; exact h.1.1) (vis_of h.1.2) (okName_1 h.2) (okName_2 h.2)) fun σ H Q q => ?_
      obtain ⟨F, ss, rel, p⟩ := q
      unfold evE at p
      split at p
      · rename_i d hd
        obtain ⟨v, h1, h2⟩ := rel.val i d hd
        exact ⟨v, h1, p.val rel.sub h2⟩
      · rename_i xs hd
        obtain ⟨b, vs, h1, h2, h3, h4, h5⟩ := rel.own i xs hd
        exact ⟨.ref b, h1, p (.ref b) F H (Ext.refl rel.sub) ⟨b, vs, rfl, h2, h5⟩⟩
      · exact p.elim
    · cases h
  | .k d, X, W, e, g, h => by
    unfold chkE at h
    split at h
    · rename_i i j _ _
      have e1 := of_decide_eq_true h
      subst e1
      exact PE.imp pe_int fun σ H Q ⟨F, ss, rel, p⟩ => by unfold evE at p; exact p.val rel.sub repInt
    · have e1 := of_decide_eq_true h
      subst e1
      exact PE.imp pe_str fun σ H Q ⟨F, ss, rel, p⟩ => by unfold evE at p; exact p.val rel.sub repStr
    · have e1 := of_decide_eq_true h
      subst e1
      exact PE.imp pe_bl fun σ H Q ⟨F, ss, rel, p⟩ => by unfold evE at p; exact p.val rel.sub repBl
    · exact PE.imp pe_non fun σ H Q ⟨F, ss, rel, p⟩ => by unfold evE at p; exact p.val rel.sub repNon
    · cases h
  | .gl x d, X, W, e, g, h => by
    unfold chkE at h
    split at h
    · simp only [Bool.and_eq_true] at h
      obtain ⟨pr, hm, hp⟩ := List.any_eq_true.mp h.2
      simp only [Bool.and_eq_true, decide_eq_true_eq] at hp
      obtain ⟨u, v, h1, h2, h3⟩ := g.gl pr hm
      rw [hp.1] at h1
      rw [D.same_eq _ _ hp.2] at h3
      exact PE.imp (pe_glob (glob_of h.1.1) h1 h2 (okName_1 h.1.2)) fun σ H Q ⟨F, ss, rel, p⟩ => by unfold evE at p; exact p.val rel.sub (h3 F)
    · cases h
  | .tup es, X, W, e, g, h => by
    unfold chkE at h
    split at h
    · refine PE.imp (pe_tup (sndA es g h)) fun σ H Q ⟨F, ss, rel, p⟩ => ⟨F, ss, rel, ?_⟩
      unfold evE at p
      cases e : evF G sub es ss with
      | ok ds =>
        rw [e] at p
        intro vs F1 H1 x rs
        obtain ⟨c, p⟩ := guardM_ok (P := fun m => PostE X.K Z W m F H σ Q) p (fun z => z)
        exact ⟨by rw [← rs.length, ← line_eq]; exact of_decide_eq_true c, fun q nq => (PostE.grow p x).tup x.sub rs q nq⟩
      | ex c => rw [e] at p; exact p
      | bad => rw [e] at p; exact p.elim
    · cases h
  | .lst es, X, W, e, g, h => by
    unfold chkE at h
    split at h
    · refine PE.imp (pe_lst (sndA es g h)) fun σ H Q ⟨F, ss, rel, p⟩ => ⟨F, ss, rel, ?_⟩
      unfold evE at p
      cases e : evF G sub es ss with
      | ok ds =>
        rw [e] at p
        intro vs F1 H1 x rs
        obtain ⟨c, p⟩ := guardM_ok (P := fun m => PostE X.K Z W m F H σ Q) p (fun z => z)
        exact ⟨by rw [← rs.length, ← line_eq]; exact of_decide_eq_true c, fun q nq => (PostE.grow p x).own x.sub rs q nq⟩
      | ex c => rw [e] at p; exact p
      | bad => rw [e] at p; exact p.elim
    · cases h
  | .op o a b, X, W, e, g, h => by
    unfold chkE at h
    split at h
    · simp only [Bool.and_eq_true, decide_eq_true_eq] at h
      obtain ⟨⟨rfl, h1⟩, h2⟩ := h
      exact PE.imp (pe_op (op_opD (Z := Z) (W := W) _) (sndE a g h1) (sndE b g h2)) fun σ H Q q => tE_two (by simpa only [evE] using q)
    · cases h
  | .neg a, X, W, e, g, h => by
    unfold chkE at h
    split at h
    · refine PE.imp (pe_un un_neg (sndE a g h)) fun σ H Q ⟨F, ss, rel, p⟩ => ⟨F, ss, rel, ?_⟩
      unfold evE at p
      cases e : evE G sub a ss with
      | ok r =>
        rw [e, okb] at p
        intro v F1 H1 x q
        obtain ⟨i, rfl, pn⟩ := asInt_ok (P := fun m => PostE X.K Z W m F H σ Q) p (fun z => z)
        have q' : Rep X.K F1 (.int i) v := q
        unfold Rep at q'
        exact ⟨i, q', (PostE.grow pn x).val x.sub repInt⟩
      | ex c => rw [e] at p; exact p
      | bad => rw [e] at p; exact p.elim
    · cases h
  | .not a, X, W, e, g, h => by
    unfold chkE at h
    split at h
    · refine PE.imp (pe_not (sndE a g h)) fun σ H Q ⟨F, ss, rel, p⟩ => ⟨F, ss, rel, ?_⟩
      unfold evE at p
      cases e : evE G sub a ss with
      | ok r =>
        rw [e, okb] at p
        intro v F1 H1 x q
        obtain ⟨i, rfl, pn⟩ := asBool_ok (P := fun m => PostE X.K Z W m F H σ Q) p (fun z => z)
        have q' : Rep X.K F1 (.bl i) v := q
        unfold Rep at q'
        exact ⟨i, q', (PostE.grow pn x).val x.sub repBl⟩
      | ex c => rw [e] at p; exact p
      | bad => rw [e] at p; exact p.elim
    · cases h
  | .cmp o a b, X, W, e, g, h => by
    unfold chkE at h
    split at h
    · simp only [Bool.and_eq_true, decide_eq_true_eq, Bool.not_eq_true'] at h
      obtain ⟨⟨⟨rfl, hm⟩, h1⟩, h2⟩ := h
      exact PE.imp (pe_cmpR (op_cmpD (Z := Z) (W := W) g.un _) (sndE a g h1) (sndE b g h2) hm) fun σ H Q q => tE_two (by simpa only [evE] using q)
    · cases h
  | .chain o p a b c, X, W, e, g, h => by
    unfold chkE at h
    split at h
    · simp only [Bool.and_eq_true, decide_eq_true_eq, Bool.not_eq_true'] at h
      obtain ⟨⟨⟨⟨⟨rfl, rfl⟩, hm⟩, h1⟩, h2⟩, h3⟩ := h
      exact PE.imp (pe_chain (op_cmpD (Z := Z) (W := W) g.un _) (op_cmpD (Z := Z) (W := W) g.un _) (sndE a g h1) (sndE b g h2) (sndE c g h3) hm) fun σ H Q q => chain_two (by simpa only [evE] using q)
    · cases h
  | .and a b, X, W, e, g, h => by
    unfold chkE at h
    split at h
    · simp only [Bool.and_eq_true] at h
      refine PE.imp (pe_and (sndE a g h.1) (sndE b g h.2)) fun σ H Q ⟨F, ss, rel, p⟩ => ⟨F, ss, rel, ?_⟩
      unfold evE at p
      cases e : evE G sub a ss with
      | ok r =>
        rw [e, okb] at p
        intro v F1 H1 x q
        obtain ⟨i, rfl, pn⟩ := asBool_ok (P := fun m => PostE X.K Z W m F H σ Q) p (fun z => z)
        have q' : Rep X.K F1 (.bl i) v := q
        unfold Rep at q'
        refine ⟨i, q', ?_⟩
        cases i with
        | true => rw [if_pos rfl]; rw [if_pos rfl] at pn; exact ⟨F1, ss, rel.grow x, PostE.grow pn x⟩
        | false => rw [if_neg Bool.false_ne_true]; rw [if_neg Bool.false_ne_true] at pn; exact (PostE.grow pn x).val x.sub repBl
      | ex c => rw [e] at p; exact p
      | bad => rw [e] at p; exact p.elim
    · cases h
  | .or a b, X, W, e, g, h => by
    unfold chkE at h
    split at h
    · simp only [Bool.and_eq_true] at h
      refine PE.imp (pe_or (sndE a g h.1) (sndE b g h.2)) fun σ H Q ⟨F, ss, rel, p⟩ => ⟨F, ss, rel, ?_⟩
      unfold evE at p
      cases e : evE G sub a ss with
      | ok r =>
        rw [e, okb] at p
        intro v F1 H1 x q
        obtain ⟨i, rfl, pn⟩ := asBool_ok (P := fun m => PostE X.K Z W m F H σ Q) p (fun z => z)
        have q' : Rep X.K F1 (.bl i) v := q
        unfold Rep at q'
        refine ⟨i, q', ?_⟩
        cases i with
        | true => rw [if_pos rfl]; rw [if_pos rfl] at pn; exact (PostE.grow pn x).val x.sub repBl
        | false => rw [if_neg Bool.false_ne_true]; rw [if_neg Bool.false_ne_true] at pn; exact ⟨F1, ss, rel.grow x, PostE.grow pn x⟩
      | ex c => rw [e] at p; exact p
      | bad => rw [e] at p; exact p.elim
    · cases h
  | .one a, X, W, e, g, h => by
    unfold chkE at h
    split at h
    · exact PE.imp (pe_one (sndE a g h)) fun σ H Q ⟨F, ss, rel, p⟩ => ⟨F, ss, rel, by unfold evE at p; exact p⟩
    · cases h
  | .ite c a b, X, W, e, g, h => by
    unfold chkE at h
    split at h
    · simp only [Bool.and_eq_true] at h
      obtain ⟨⟨⟨h0, h1⟩, h2⟩, h3⟩ := h
      refine PE.imp (pe_ifExp (sndT c h0 g h1) (sndE a g h2) (sndE b g h3)) fun σ H Q ⟨F, ss, rel, p⟩ => ⟨F, ss, rel, ?_⟩
      unfold evE at p
      dsimp only
      cases e : evE G sub c ss with
      | ok r =>
        rw [e, okb] at p
        obtain ⟨i, rfl, pn⟩ := asBool_ok (P := fun m => PostE X.K Z W m F H σ Q) p (fun z => z)
        intro F1 H1 x
        cases i with
        | true => rw [if_pos rfl]; rw [if_pos rfl] at pn; exact ⟨F1, ss, rel.grow x, PostE.grow pn x⟩
        | false => rw [if_neg Bool.false_ne_true]; rw [if_neg Bool.false_ne_true] at pn; exact ⟨F1, ss, rel.grow x, PostE.grow pn x⟩
      | ex c => rw [e] at p; exact p
      | bad => rw [e] at p; exact p.elim
    · cases h
  | .call f es, X, W, e, g, h => by
    unfold chkE at h
    split at h
    · rename_i x p xs pos
      simp only [Bool.and_eq_true] at h
      obtain ⟨⟨⟨⟨⟨hc, hg⟩, hn⟩, hs⟩, hf⟩, he⟩ := h
      have A := sndA es g he
      cases xs with
      | nil =>
        cases es with
        | nil => exact PE.imp (pe_fn0 g hc hg hn hf) fun σ H Q q => by simpa only [evE, evF] using q
        | cons _ _ => simp [chkEs] at he
      | cons y ys => exact PE.imp (pe_fn g hc hg hn hs hf A) fun σ H Q q => by simpa only [evE] using q
    · cases h
  | .blt f es, X, W, e, g, h => by
    unfold chkE at h
    split at h
    · rename_i x p y xs pos
      simp only [Bool.and_eq_true, decide_eq_true_eq] at h
      obtain ⟨⟨⟨⟨⟨⟨hc, hg⟩, hn⟩, hs⟩, hx⟩, hb⟩, he⟩ := h
      have A := sndR es g he
      have hm := g.blt x hb
      rw [List.all_cons, Bool.and_eq_true] at hs
      have hv : bootBuiltins x = some (bval f) := by rw [hx]; exact bboot f
      have C := call_D (X := X) (Z := Z) (W := W) (g.calm hc).1 f
      have go : ∀ σ H Q, tE X.K Z W (evE G sub (.blt f es)) σ H Q → tCB (rB X.K Z W f) (tRs X.K Z W (evs G sub es)) σ H Q := fun σ H Q ⟨F, ss, rel, p⟩ => ⟨F, ss, rel, by
        unfold evE at p
        cases e : evs G sub es ss with
        | ok rs =>
          rw [e] at p
          intro vs F1 H1 x1 q
          exact ⟨F1, σ, _, x1.sub, reps_of x1.sub q, PostE.grow p x1⟩
        | ex c => rw [e] at p; exact p
        | bad => rw [e] at p; exact p.elim⟩
      have nm := okName_3 hn
      have dm := okName_1 hn
      have st := starEach_of (es := xs) (env := X.env) hs.1
      have sa := starEach_any (env := X.env) (pos := pos) hs.2
      cases f with
      | int => exact PE.imp (pe_callTy C (glob_of hg) hm hv A nm dm st sa) go
      | tuple => exact PE.imp (pe_callTy C (glob_of hg) hm hv A nm dm st sa) go
      | list => exact PE.imp (pe_callTy C (glob_of hg) hm hv A nm dm st sa) go
      | str => exact PE.imp (pe_callTy C (glob_of hg) hm hv A nm dm st sa) go
      | len => exact PE.imp (pe_callB C (glob_of hg) hm hv A nm dm st sa) go
      | abs => exact PE.imp (pe_callB C (glob_of hg) hm hv A nm dm st sa) go
      | max2 => exact PE.imp (pe_callB C (glob_of hg) hm hv A nm dm st sa) go
      | min2 => exact PE.imp (pe_callB C (glob_of hg) hm hv A nm dm st sa) go
      | sum => exact PE.imp (pe_callB C (glob_of hg) hm hv A nm dm st sa) go
      | all => exact PE.imp (pe_callB C (glob_of hg) hm hv A nm dm st sa) go
      | any => exact PE.imp (pe_callB C (glob_of hg) hm hv A nm dm st sa) go
    · cases h
  | .ix a i, X, W, e, g, h => by
    unfold chkE at h
    split at h
    · simp only [Bool.and_eq_true] at h
      exact PE.imp (pe_ix (ix_D (Z := Z) (W := W)) (sndE a g h.1.2) (sndE i g h.2) (plainIx_of h.1.1)) fun σ H Q q => tE_two (by simpa only [evE] using q)
    · cases h
  | .sl a lo hi, X, W, e, g, h => by
    unfold chkE at h
    split at h
    · simp only [Bool.and_eq_true] at h
      refine PE.imp (pe_slice (sl_D (Z := Z) (W := W)) (sndE a g h.1.1) (sndO lo g h.1.2) (sndO hi g h.2)) fun σ H Q ⟨F, ss, rel, p⟩ => ⟨F, ss, rel, ?_⟩
      unfold evE at p
      cases e : evE G sub a ss with
      | ok r =>
        rw [e] at p
        intro v F1 H1 x q
        have p1 : PostE X.K Z W ((evO G sub lo ss).bind fun l => (evO G sub hi ss).bind fun h => slD r.view l h) F1 H1 σ Q := PostE.grow p x
        refine ⟨F1, ss, rel.grow x, ?_⟩
        cases e2 : evO G sub lo ss with
        | ok l =>
          rw [e2] at p1
          intro F2 H2 x2
          have p2 : PostE X.K Z W ((evO G sub hi ss).bind fun h => slD r.view l h) F2 H2 σ Q := PostE.grow p1 x2
          refine ⟨F2, ss, (rel.grow x).grow x2, ?_⟩
          cases e3 : evO G sub hi ss with
          | ok u =>
            rw [e3] at p2
            intro F3 H3 x3
            exact ⟨F3, σ, r.view, x3.sub, View.mono (x2.sf.trans x3.sf) (x2.sh.trans x3.sh) (RepR.view x.sub q), PostE.grow p2 x3⟩
          | ex c => rw [e3] at p2; exact p2
          | bad => rw [e3] at p2; exact p2.elim
        | ex c => rw [e2] at p1; exact p1
        | bad => rw [e2] at p1; exact p1.elim
      | ex c => rw [e] at p; exact p
      | bad => rw [e] at p; exact p.elim
    · cases h
  | .isi a t, X, W, e, g, h => by
    unfold chkE at h
    split at h
    · rename_i f pf x y py pos
      simp only [Bool.and_eq_true, decide_eq_true_eq] at h
      obtain ⟨⟨⟨⟨⟨⟨⟨⟨hf, hg⟩, hfb⟩, hgy⟩, hny⟩, hy⟩, hyb⟩, hs⟩, hx⟩ := h
      subst hf
      have hv : bootBuiltins y = some (.type (tyName t)) := by rw [hy]; exact tyboot t
      have A := pa_cons (sndE a g hx) (pa_cons (pe_bltn (v := .ty (tyName t)) (pos := py) (glob_of hgy) (g.blt y hyb) hv rfl (okName_3 hny) (okName_1 hny)) pa_nil) (starEach_of hs)
      refine PE.imp (pe_callB call_isi (glob_of hg) (g.blt _ hfb) (by decide +kernel) A (by decide) (by decide) (starEach_of hs) (starEach_any rfl)) fun σ H Q ⟨F, ss, rel, p⟩ => ⟨F, ss, rel, ?_⟩
      unfold evE at p
      cases e : evE G sub a ss with
      | ok r =>
        rw [e] at p
        intro v F1 H1 x1 q
        have vw := RepR.view x1.sub q
        exact ⟨v, .ty (tyName t), _, _, _, rfl, .ty _, View.tyX x1.sub vw, kit_ty (kit_D t r.view), (PostE.grow p x1).val x1.sub repBl⟩
      | ex c => rw [e] at p; exact p
      | bad => rw [e] at p; exact p.elim
    · cases h
  | .isx i cs, X, W, e, g, h => by
    unfold chkE at h
    split at h
    · rename_i f pf x px y pos
      simp only [Bool.and_eq_true, decide_eq_true_eq] at h
      obtain ⟨⟨⟨⟨⟨⟨hf, hg⟩, hfb⟩, hN⟩, hv⟩, hok⟩, hy⟩ := h
      subst hf
      refine ⟨fun pins s σ H Q I q => ?_⟩
      obtain ⟨F, ss, rel, p⟩ := q
      unfold evE at p
      split at p
      · rename_i c hc
        split at p
        · rename_i b hb
          obtain ⟨a, hz, hσ⟩ := rel.exc i c hc
          have C := g.isx a c i hz
          have P := pe_var (pos := px) (i := i) (X := X) (by rw [g.N]; exact hN) (vis_of hv) (okName_1 hok) (okName_2 hok)
          split at hy
          · rename_i cn pc k
            simp only [Bool.and_eq_true, decide_eq_true_eq] at hy
            obtain ⟨D, hD, hcl⟩ := g.exn _ hy.2
            have A := pa_cons P (pa_cons (pe_glob (pos := pc) (glob_of hy.1.1) hD (show L2.RelV (.ref D) (.ref D) from rfl) (okName_1 hy.1.2)) pa_nil)
            have e1 : sub c k = some b := by
              unfold anyO at hb
              cases e : sub c k with
              | none => rw [e] at hb; cases hb
              | some t =>
                rw [e] at hb
                cases t with
                | true => exact hb
                | false => unfold anyO at hb; exact hb
            exact (pe_callB C (glob_of hg) (g.blt _ hfb) (by decide +kernel) A (by decide) (by decide) rfl (starEach_any rfl)).run pins s σ H Q I ⟨_, hσ, .inl ⟨k, D, b, rfl, hcl, e1, p.val rel.sub repBl⟩⟩
          · rename_i ys kk pt
            simp only [Bool.and_eq_true, decide_eq_true_eq] at hy
            obtain ⟨Cs, h1, h2⟩ := sndX g cs hy.2
            have A := pa_cons P (pa_cons (pe_tup (pos := pt) (x1 := kk) h2) pa_nil)
            refine (pe_callB C (glob_of hg) (g.blt _ hfb) (by decide +kernel) A (by decide) (by decide) rfl (starEach_any rfl)).run pins s σ H Q I ⟨_, hσ, ?_, fun tp ntp => .inr ⟨tp, cs, Cs, b, rfl, upd_same, h1, hb, ?_⟩⟩
            · rw [List.length_map, ← List.length_map (f := Value.ref), ← h1, List.length_map]
              exact Nat.le_trans hy.1 (by rw [sizeLine_eq]; omega)
            · exact p (.bl b) F _ (Ext.new1 rel.sub ntp _) (show Rep X.K F (.bl b) (.bl b) from repBl)
          · cases hy
        · exact p.elim
      · exact p.elim
    · cases h
  | .lc vs tg it c x, X, W, e, g, h => by
    unfold chkE at h
    split at h
    · rename_i elt t iter ifs as scope pos
      simp only [Bool.and_eq_true, decide_eq_true_eq] at h
      obtain ⟨⟨⟨⟨⟨⟨⟨⟨hc, ha⟩, hb⟩, hi⟩, hns⟩, ht⟩, hix⟩, hcd⟩, hx⟩ := h
      subst ha
      have hcalm := (g.calm hc).1
      have bo := blkOk_by (sc := X.env.scope) (own := ownOf St.N vs) (by rw [← g.N] at hb; rw [← g.N]; exact hb)
      have key := pe_lc (ifs := ifs) (own := ownOf St.N vs) (g := gT X.K Z tg) (tt := tB X.K Z W0 (evC G sub c)) (te := tE X.K Z W0 (evE G sub x)) (pos := pos) hcalm g.nd (sndI it (tg := t) g hi) bo
        (fun s H C cl fp => sndTg (St := St) tg (X := X.blk s H scope (compEnvC scope cl C X.env) fp) hcalm g.N g.nd (fun y hy => loc_relS (sc := X.env.scope) hy) ht)
        (fun s H C cl fp => sndC c (g.blk (g.calm hc).2.2 s H scope (compEnvC scope cl C X.env) fp) hcd)
        (fun s H C cl fp => sndE x (g.blk (g.calm hc).2.2 s H scope (compEnvC scope cl C X.env) fp) hx)
        (notSet_of hns)
      rw [ownOf_snd] at key
      exact PE.imp key fun σ H Q q => lc_snd hix (by simpa only [evE] using q)
    · cases h
termination_by a => 3 * sizeOf a
decreasing_by all_goals first | (simp_wf; done) | (simp_wf; omega)
theorem sndW : ∀ (a : E) {X : Cx} {W : WX} {op : BoolOp} {es : List Expr} {pos : Pos}, testable a = true → Good X St Z W G sub k calm → chkE St calm X.env.scope a (.BoolOp op es pos) = true → PW X (.BoolOp op es pos) (tB X.K Z W fun ss => (evE G sub a ss).bind asBool)
  | .and a b, X, W, op, es, pos, ht, g, h => by
    unfold chkE at h
    split at h
    · rename_i x y r pos' heq
      cases heq
      simp only [Bool.and_eq_true] at h
      simp only [testable, Bool.and_eq_true] at ht
      refine PW.imp (pw_and (sndT a ht.1 g h.1) (sndW b ht.2 g h.2)) fun σ H Q ⟨F, ss, rel, p⟩ => ⟨F, ss, rel, ?_⟩
      dsimp only at p ⊢
      unfold evE at p
      cases e : evE G sub a ss with
      | ok r =>
        rw [e, okb] at p
        rw [okb]
        cases e2 : asBool r with
        | ok i =>
          rw [e2, okb] at p
          intro F1 H1 x
          cases i with
          | true => rw [if_pos rfl]; rw [if_pos rfl] at p; exact ⟨F1, ss, rel.grow x, PostB.grow p x⟩
          | false => rw [if_neg Bool.false_ne_true]; rw [if_neg Bool.false_ne_true] at p; exact p F1 H1 x
        | ex c => rw [e2] at p; exact p
        | bad => rw [e2] at p; exact p.elim
      | ex c => rw [e] at p; exact p
      | bad => rw [e] at p; exact p.elim
    · cases h
  | .or a b, X, W, op, es, pos, ht, g, h => by
    unfold chkE at h
    split at h
    · rename_i x y r pos' heq
      cases heq
      simp only [Bool.and_eq_true] at h
      simp only [testable, Bool.and_eq_true] at ht
      refine PW.imp (pw_or (sndT a ht.1 g h.1) (sndW b ht.2 g h.2)) fun σ H Q ⟨F, ss, rel, p⟩ => ⟨F, ss, rel, ?_⟩
      dsimp only at p ⊢
      unfold evE at p
      cases e : evE G sub a ss with
      | ok r =>
        rw [e, okb] at p
        rw [okb]
        cases e2 : asBool r with
        | ok i =>
          rw [e2, okb] at p
          intro F1 H1 x
          cases i with
          | true => rw [if_pos rfl]; rw [if_pos rfl] at p; exact p F1 H1 x
          | false => rw [if_neg Bool.false_ne_true]; rw [if_neg Bool.false_ne_true] at p; exact ⟨F1, ss, rel.grow x, PostB.grow p x⟩
        | ex c => rw [e2] at p; exact p
        | bad => rw [e2] at p; exact p.elim
      | ex c => rw [e] at p; exact p
      | bad => rw [e] at p; exact p.elim
    · cases h
  | .one a, X, W, op, es, pos, ht, g, h => by
    unfold chkE at h
    split at h
    · rename_i op' x pos' heq
      cases heq
      have A := sndT a (by simpa [testable] using ht) g h
      cases op with
      | And => exact PW.imp (pw_and1 A) fun σ H Q ⟨F, ss, rel, p⟩ => ⟨F, ss, rel, by simpa only [evE] using p⟩
      | Or => exact PW.imp (pw_or1 A) fun σ H Q ⟨F, ss, rel, p⟩ => ⟨F, ss, rel, by simpa only [evE] using p⟩
    · cases h
  | .var i, X, W, op, es, pos, ht, g, h => by simp [chkE] at h
  | .k d, X, W, op, es, pos, ht, g, h => by simp [chkE] at h
  | .gl x d, X, W, op, es, pos, ht, g, h => by simp [chkE] at h
  | .tup _, X, W, op, es, pos, ht, g, h => by simp [chkE] at h
  | .lst _, X, W, op, es, pos, ht, g, h => by simp [chkE] at h
  | .op _ _ _, X, W, op, es, pos, ht, g, h => by simp [chkE] at h
  | .neg _, X, W, op, es, pos, ht, g, h => by simp [chkE] at h
  | .not _, X, W, op, es, pos, ht, g, h => by simp [chkE] at h
  | .cmp _ _ _, X, W, op, es, pos, ht, g, h => by simp [chkE] at h
  | .chain _ _ _ _ _, X, W, op, es, pos, ht, g, h => by simp [chkE] at h
  | .ite _ _ _, X, W, op, es, pos, ht, g, h => by simp [chkE] at h
  | .call _ _, X, W, op, es, pos, ht, g, h => by simp [chkE] at h
  | .blt _ _, X, W, op, es, pos, ht, g, h => by simp [chkE] at h
  | .ix _ _, X, W, op, es, pos, ht, g, h => by simp [chkE] at h
  | .sl _ _ _, X, W, op, es, pos, ht, g, h => by simp [chkE] at h
  | .isi _ _, X, W, op, es, pos, ht, g, h => by simp [chkE] at h
  | .isx _ _, X, W, op, es, pos, ht, g, h => by simp [chkE] at h
  | .lc _ _ _ _ _, X, W, op, es, pos, ht, g, h => by simp [chkE] at h
termination_by a => 3 * sizeOf a + 1
decreasing_by all_goals first | (simp_wf; done) | (simp_wf; omega)
theorem sndT : ∀ (a : E) {X : Cx} {W : WX} {e : Expr}, testable a = true → Good X St Z W G sub k calm → chkE St calm X.env.scope a e = true → PT X e (tB X.K Z W fun ss => (evE G sub a ss).bind asBool)
  | .and a b, X, W, e, ht, g, h => by
    have h0 := h
    unfold chkE at h0
    split at h0
    · exact (sndW (.and a b) ht g h).pt
    · cases h0
  | .or a b, X, W, e, ht, g, h => by
    have h0 := h
    unfold chkE at h0
    split at h0
    · exact (sndW (.or a b) ht g h).pt
    · cases h0
  | .one a, X, W, e, ht, g, h => by
    have h0 := h
    unfold chkE at h0
    split at h0
    · exact (sndW (.one a) ht g h).pt
    · cases h0
  | .not a, X, W, e, ht, g, h => by
    unfold chkE at h
    split at h
    · refine PT.imp (pt_not (sndT a (by simpa [testable] using ht) g h)) fun σ H Q ⟨F, ss, rel, p⟩ => ⟨F, ss, rel, ?_⟩
      dsimp only at p ⊢
      unfold evE at p
      cases e : evE G sub a ss with
      | ok r =>
        rw [e, okb] at p
        rw [okb]
        cases e2 : asBool r with
        | ok i => rw [e2, okb] at p; exact p
        | ex c => rw [e2] at p; exact p
        | bad => rw [e2] at p; exact p.elim
      | ex c => rw [e] at p; exact p
      | bad => rw [e] at p; exact p.elim
    · cases h
  | .cmp o a b, X, W, e, ht, g, h => by
    unfold chkE at h
    split at h
    · simp only [Bool.and_eq_true, decide_eq_true_eq, Bool.not_eq_true'] at h
      obtain ⟨⟨⟨rfl, hm⟩, h1⟩, h2⟩ := h
      exact PT.imp (pt_cmpR (op_cmpD (Z := Z) (W := W) g.un _) (sndE a g h1) (sndE b g h2) hm) fun σ H Q q => tE_two (by simpa only [evE] using tB_of q)
    · cases h
  | .chain o p a b c, X, W, e, ht, g, h => by
    unfold chkE at h
    split at h
    · simp only [Bool.and_eq_true, decide_eq_true_eq, Bool.not_eq_true'] at h
      obtain ⟨⟨⟨⟨⟨rfl, rfl⟩, hm⟩, h1⟩, h2⟩, h3⟩ := h
      exact PT.imp (pt_chain (op_cmpD (Z := Z) (W := W) g.un _) (op_cmpD (Z := Z) (W := W) g.un _) (sndE a g h1) (sndE b g h2) (sndE c g h3) hm) fun σ H Q q => chain_two (by simpa only [evE] using tB_of q)
    · cases h
  | .ite _ _ _, X, W, e, ht, g, h => by simp [testable] at ht
  | .var i, X, W, e, ht, g, h => PT.imp (pt_val (sndE (.var i) g h) (plainTest_of (by unfold chkE at h; split at h <;> first | rfl | cases h))) fun σ H Q q => tB_of q
  | .k d, X, W, e, ht, g, h => PT.imp (pt_val (sndE (.k d) g h) (plainTest_of (by unfold chkE at h; split at h <;> first | rfl | cases h))) fun σ H Q q => tB_of q
  | .gl x d, X, W, e, ht, g, h => PT.imp (pt_val (sndE (.gl x d) g h) (plainTest_of (by unfold chkE at h; split at h <;> first | rfl | cases h))) fun σ H Q q => tB_of q
  | .tup x, X, W, e, ht, g, h => PT.imp (pt_val (sndE (.tup x) g h) (plainTest_of (by unfold chkE at h; split at h <;> first | rfl | cases h))) fun σ H Q q => tB_of q
  | .lst x, X, W, e, ht, g, h => PT.imp (pt_val (sndE (.lst x) g h) (plainTest_of (by unfold chkE at h; split at h <;> first | rfl | cases h))) fun σ H Q q => tB_of q
  | .op x y z, X, W, e, ht, g, h => PT.imp (pt_val (sndE (.op x y z) g h) (plainTest_of (by unfold chkE at h; split at h <;> first | rfl | cases h))) fun σ H Q q => tB_of q
  | .neg x, X, W, e, ht, g, h => PT.imp (pt_val (sndE (.neg x) g h) (plainTest_of (by unfold chkE at h; split at h <;> first | rfl | cases h))) fun σ H Q q => tB_of q
  | .call x y, X, W, e, ht, g, h => PT.imp (pt_val (sndE (.call x y) g h) (plainTest_of (by unfold chkE at h; split at h <;> first | rfl | cases h))) fun σ H Q q => tB_of q
  | .blt x y, X, W, e, ht, g, h => PT.imp (pt_val (sndE (.blt x y) g h) (plainTest_of (by unfold chkE at h; split at h <;> first | rfl | cases h))) fun σ H Q q => tB_of q
  | .ix x y, X, W, e, ht, g, h => PT.imp (pt_val (sndE (.ix x y) g h) (plainTest_of (by unfold chkE at h; split at h <;> first | rfl | cases h))) fun σ H Q q => tB_of q
  | .sl x y z, X, W, e, ht, g, h => PT.imp (pt_val (sndE (.sl x y z) g h) (plainTest_of (by unfold chkE at h; split at h <;> first | rfl | cases h))) fun σ H Q q => tB_of q
  | .isi x y, X, W, e, ht, g, h => PT.imp (pt_val (sndE (.isi x y) g h) (plainTest_of (by unfold chkE at h; split at h <;> first | rfl | cases h))) fun σ H Q q => tB_of q
  | .isx x y, X, W, e, ht, g, h => PT.imp (pt_val (sndE (.isx x y) g h) (plainTest_of (by unfold chkE at h; split at h <;> first | rfl | cases h))) fun σ H Q q => tB_of q
  | .lc x y z v u, X, W, e, ht, g, h => PT.imp (pt_val (sndE (.lc x y z v u) g h) (plainTest_of (by unfold chkE at h; split at h <;> first | rfl | cases h))) fun σ H Q q => tB_of q
termination_by a => 3 * sizeOf a + 2
decreasing_by all_goals first | (simp_wf; done) | (simp_wf; omega)
theorem sndO : ∀ (a : Option E) {X : Cx} {W : WX} {e : Option Expr}, Good X St Z W G sub k calm → chkO St calm X.env.scope a e = true → PO X e (tOI X.K Z W (evO G sub a))
  | none, X, W, e, g, h => by
    cases e with
    | none => exact PO.imp po_none fun σ H Q ⟨F, ss, rel, p⟩ => by unfold evO at p; exact p F H (Ext.refl rel.sub)
    | some _ => simp [chkO] at h
  | some a, X, W, e, g, h => by
    cases e with
    | none => simp [chkO] at h
    | some e =>
      have h' : chkE St calm X.env.scope a e = true := by simpa [chkO] using h
      refine PO.imp (po_some (sndE a g h')) fun σ H Q ⟨F, ss, rel, p⟩ => ⟨F, ss, rel, ?_⟩
      unfold evO at p
      cases e : evE G sub a ss with
      | ok r =>
        rw [e, okb] at p
        cases r with
        | val d =>
          cases d with
          | int i =>
            intro v F1 H1 x q
            have q' : Rep X.K F1 (.int i) v := q
            unfold Rep at q'
            exact ⟨i, q', p F1 H1 x⟩
          | _ => exact p.elim
        | _ => exact p.elim
      | ex c => rw [e] at p; exact p
      | bad => rw [e] at p; exact p.elim
termination_by a => 3 * sizeOf a
decreasing_by all_goals first | (simp_wf; done) | (simp_wf; omega)
theorem sndA : ∀ (as : List E) {X : Cx} {W : WX} {es : List Expr}, Good X St Z W G sub k calm → chkEs St calm X.env.scope as es = true → PA X es (tDs X.K Z W (evF G sub as))
  | [], X, W, es, g, h => by
    unfold chkEs at h
    split at h
    · exact pa_nilD
    · cases h
  | a :: as, X, W, es, g, h => by
    unfold chkEs at h
    split at h
    · simp only [Bool.and_eq_true] at h
      exact pa_consD h.1.1 (sndE a g h.1.2) (sndA as g h.2)
    · cases h
termination_by a => 3 * sizeOf a
decreasing_by all_goals first | (simp_wf; done) | (simp_wf; omega)
theorem sndC : ∀ (c : Option E) {X : Cx} {W : WX} {ifs : List Expr}, Good X St Z W G sub k calm → (match c, ifs with
      | none, [] => true
      | some c', [q] => testable c' && chkE St calm X.env.scope c' q
      | _, _ => false) = true → PTs X ifs (tB X.K Z W (evC G sub c))
  | none, X, W, ifs, g, h => by
    cases ifs with
    | nil =>
      refine PTs.imp pts_nil fun σ H Q ⟨F, ss, rel, p⟩ => ?_
      unfold evC at p
      exact p F H (Ext.refl rel.sub)
    | cons _ _ => cases h
  | some c', X, W, ifs, g, h => by
    cases ifs with
    | nil => cases h
    | cons q qs =>
      cases qs with
      | nil =>
        simp only [Bool.and_eq_true] at h
        exact PTs.imp (pts_one (sndT c' h.1 g h.2)) fun σ H Q q => by simpa only [evC] using q
      | cons _ _ => cases h
termination_by a => 3 * sizeOf a
decreasing_by all_goals first | (simp_wf; done) | (simp_wf; omega)
theorem sndR : ∀ (as : List E) {X : Cx} {W : WX} {es : List Expr}, Good X St Z W G sub k calm → chkEs St calm X.env.scope as es = true → PA X es (tRs X.K Z W (evs G sub as))
  | [], X, W, es, g, h => by
    unfold chkEs at h
    split at h
    · exact PA.imp pa_nil fun σ H Q ⟨F, ss, rel, p⟩ => by unfold evs at p; exact p [] F H (Ext.refl rel.sub) .nil
    · cases h
  | a :: as, X, W, es, g, h => by
    unfold chkEs at h
    split at h
    · simp only [Bool.and_eq_true] at h
      refine PA.imp (pa_cons (sndE a g h.1.2) (sndR as g h.2) (starEach_of h.1.1)) fun σ H Q ⟨F, ss, rel, p⟩ => ⟨F, ss, rel, ?_⟩
      unfold evs at p
      cases e : evE G sub a ss with
      | ok r =>
        rw [e, okb] at p
        intro v F1 H1 x q
        refine ⟨F1, ss, rel.grow x, ?_⟩
        cases e2 : evs G sub as ss with
        | ok ds =>
          rw [e2, okb] at p
          intro vs F3 H3 x3 rs
          exact p (v :: vs) F3 H3 (x.trans x3) (.cons (RepR.ext x3 q) (Paired.mapP rs fun _ _ z => RepR.back x.sh z))
        | ex c => rw [e2] at p; exact fun H' s => p H' (x.sh.trans s)
        | bad => rw [e2] at p; exact p.elim
      | ex c => rw [e] at p; exact p
      | bad => rw [e] at p; exact p.elim
    · cases h
termination_by a => 3 * sizeOf a
decreasing_by all_goals first | (simp_wf; done) | (simp_wf; omega)
theorem sndI : ∀ (a : I) {X : Cx} {W : WX} {tg e : Expr}, Good X St Z W G sub k calm → chkI St calm X.env.scope a tg e = true → PI X tg e (tI X.K Z W (calmI G sub a) (evI G sub a))
  | .seq a, X, W, tg, e, g, h => by
    unfold chkI at h
    have A := sndE a g h
    refine ⟨fun pins s σ H RR I q => ?_⟩
    obtain ⟨F, ss, rel, q⟩ := q
    unfold evI at q
    cases e : evE G sub a ss with
    | ex c =>
      rw [e] at q
      exact (pi_list A).run pins s σ H RR I ⟨F, ss, rel, by rw [e]; exact q⟩
    | bad => rw [e] at q; exact q.elim
    | ok r =>
      rw [e, okb] at q
      cases ev : r.view with
      | lst xs =>
        rw [ev] at q
        refine (pi_list A).run pins s σ H RR I ⟨F, ss, rel, ?_⟩
        rw [e]
        intro v F1 H1 x rr
        cases r with
        | bor ys =>
          have e1 : ys = xs := by simpa [R.view] using ev
          subst e1
          obtain ⟨b, us, rfl, h1, h2⟩ := rr
          exact ⟨b, rfl, ⟨us, SqL.of h1⟩, q _ F1 H1 x (walkD_seq h2 walk_list fun H s => SqL.of (s _ _ h1)) (fun z => by simp [calmI, calmE, e] at z)⟩
        | own ys =>
          have e1 : ys = xs := by simpa [R.view] using ev
          subst e1
          obtain ⟨F2, x2, r2, s2⟩ := RepR.fixE x rr (show R.fix (.own ys) = .ok (.lst ys) from rfl)
          unfold Rep at r2
          obtain ⟨b, us, rfl, h1, h2⟩ := r2
          exact ⟨b, rfl, ⟨us, SqL.of (x2.sub _ _ h1)⟩, q _ F2 H1 x2 (walkD_seq h2 walk_list fun H s => SqL.of (s _ _ (x2.sub _ _ h1))) (fun z => walkD_seq h2 walk_list fun H s => SqL.of (s _ _ h1))⟩
        | val d =>
          have e1 : d = .lst xs := by simpa [R.view] using ev
          subst e1
          have r2 : Rep X.K F1 (.lst xs) v := rr
          unfold Rep at r2
          obtain ⟨b, us, rfl, h1, h2⟩ := r2
          exact ⟨b, rfl, ⟨us, SqL.of (x.sub _ _ h1)⟩, q _ F1 H1 x (walkD_seq h2 walk_list fun H s => SqL.of (s _ _ (x.sub _ _ h1))) (fun z => walkD_seq h2 walk_list fun H s => SqL.of (s _ _ h1))⟩
      | scr xs =>
        rw [ev] at q
        refine (pi_list A).run pins s σ H RR I ⟨F, ss, rel, ?_⟩
        rw [e]
        intro v F1 H1 x rr
        cases r with
        | bor ys => cases ev
        | own ys => cases ev
        | val d =>
          have e1 : d = .scr xs := by simpa [R.view] using ev
          subst e1
          have r2 : Rep X.K F1 (.scr xs) v := rr
          unfold Rep at r2
          obtain ⟨b, us, rfl, h1, h2⟩ := r2
          exact ⟨b, rfl, ⟨us, x.sub.seq h1⟩, q _ F1 H1 x (walkD_seq h2 walk_list fun H s => s.seq (x.sub.seq h1)) (fun z => walkD_seq h2 walk_list fun H s => s.seq h1)⟩
      | tup xs =>
        rw [ev] at q
        refine (pi_tup A).run pins s σ H RR I ⟨F, ss, rel, ?_⟩
        rw [e]
        intro v F1 H1 x rr
        cases r with
        | bor ys => cases ev
        | own ys => cases ev
        | val d =>
          have e1 : d = .tup xs := by simpa [R.view] using ev
          subst e1
          have r2 : Rep X.K F1 (.tup xs) v := rr
          unfold Rep at r2
          obtain ⟨b, us, rfl, h1, h2⟩ := r2
          exact ⟨b, rfl, ⟨us, Same.seqT x.sub h1⟩, q _ F1 H1 x (walkD_seq h2 walk_tup fun H s => Same.seqT s (Same.seqT x.sub h1)) (fun z => walkD_seq h2 walk_tup fun H s => Same.seqT s h1)⟩
      | non => rw [ev] at q; exact q.elim
      | bl _ => rw [ev] at q; exact q.elim
      | int _ => rw [ev] at q; exact q.elim
      | str _ => rw [ev] at q; exact q.elim
  | .rng es, X, W, tg, e, g, h => by
    unfold chkI at h
    split at h
    · rename_i f pf a pos
      simp only [Bool.and_eq_true, decide_eq_true_eq] at h
      obtain ⟨⟨⟨⟨⟨hc, hf⟩, hg⟩, hb⟩, hn⟩, he⟩ := h
      subst hf
      have AA := sndA es g he
      split at hn
      · rename_i a'
        have he' := he
        unfold chkEs at he'
        simp only [Bool.and_eq_true] at he'
        refine PI.imp (pi_range1 (glob_of hg) (g.blt _ hb) AA (starEach_of he'.1.1)) fun σ H RR ⟨F, ss, rel, q⟩ => ⟨F, ss, rel, ?_⟩
        unfold evI at q
        cases e : evF G sub [a'] ss with
        | ex c => rw [e] at q; exact q
        | bad => rw [e] at q; exact q.elim
        | ok ds =>
          rw [e, okb] at q
          intro vs F1 H1 x rs
          split at q
          · rename_i xs heq
            split at heq
            · rename_i j
              unfold guardM at heq
              split at heq
              · rename_i hs
                cases heq
                unfold small at hs
                simp only [Bool.and_eq_true, decide_eq_true_eq] at hs
                unfold Reps at rs
                obtain ⟨v, r, rfl, r1, r2⟩ := rs
                unfold Reps at r2
                subst r2
                unfold Rep at r1
                subst r1
                refine ⟨j, rfl, by omega, by omega, q _ F1 H1 x ?_ fun _ => ?_⟩
                · have := walkD_rng (K := X.K) (B := H1) (F := F1) (lo := 0) (hi := j); rwa [Int.sub_zero] at this
                · have := walkD_rng (K := X.K) (B := F1) (F := F1) (lo := 0) (hi := j); rwa [Int.sub_zero] at this
              · cases heq
            · exact absurd rs (by
                intro rs
                have := evF_len e
                simp at this)
            · cases heq
          · rename_i heq
            exact absurd heq (by split <;> (try unfold guardM) <;> (try split) <;> intro z <;> cases z)
          · exact q.elim
      · cases hn
    · rename_i f pf a b pos
      simp only [Bool.and_eq_true, decide_eq_true_eq] at h
      obtain ⟨⟨⟨⟨⟨hc, hf⟩, hg⟩, hb⟩, hn⟩, he⟩ := h
      subst hf
      have AA := sndA es g he
      split at hn
      · rename_i a' b'
        have he' := he
        unfold chkEs at he'
        simp only [Bool.and_eq_true] at he'
        have he2 := he'.2
        unfold chkEs at he2
        simp only [Bool.and_eq_true] at he2
        refine PI.imp (pi_range2 (glob_of hg) (g.blt _ hb) AA (by rw [starEach_of he'.1.1, starEach_of he2.1.1]; rfl) (starEach_of he2.1.1)) fun σ H RR ⟨F, ss, rel, q⟩ => ⟨F, ss, rel, ?_⟩
        unfold evI at q
        cases e : evF G sub [a', b'] ss with
        | ex c => rw [e] at q; exact q
        | bad => rw [e] at q; exact q.elim
        | ok ds =>
          rw [e, okb] at q
          intro vs F1 H1 x rs
          split at q
          · rename_i xs heq
            split at heq
            · exact absurd rs (by
                intro rs
                have := evF_len e
                simp at this)
            · rename_i i j
              unfold guardM at heq
              split at heq
              · rename_i hs
                cases heq
                unfold small at hs
                simp only [Bool.and_eq_true, decide_eq_true_eq] at hs
                unfold Reps at rs
                obtain ⟨v, r, rfl, r1, r2⟩ := rs
                unfold Reps at r2
                obtain ⟨w, r', rfl, r3, r4⟩ := r2
                unfold Reps at r4
                subst r4
                unfold Rep at r1 r3
                subst r1 r3
                exact ⟨i, j, rfl, ⟨by omega, by omega, by omega, by omega⟩, q _ F1 H1 x walkD_rng fun _ => walkD_rng⟩
              · cases heq
            · cases heq
          · rename_i heq
            exact absurd heq (by split <;> (try unfold guardM) <;> (try split) <;> intro z <;> cases z)
          · exact q.elim
      · cases hn
    · cases h
  | .enum a, X, W, tg, e, g, h => by
    unfold chkI at h
    split at h
    · rename_i f pf a' pos
      simp only [Bool.and_eq_true, decide_eq_true_eq] at h
      obtain ⟨⟨⟨⟨⟨hf, hg⟩, hb⟩, ht⟩, hs⟩, he⟩ := h
      subst hf
      have A := pa_cons (sndE a g he) pa_nil (starEach_of hs)
      cases tg with
      | Tuple elts kk tpos =>
        refine PI.imp (pi_enum (tpos := tpos) (elts := elts) (kk := kk) (glob_of hg) (g.blt _ hb) A (starEach_of hs)) fun σ H RR ⟨F, ss, rel, q⟩ => ⟨F, ss, rel, ?_⟩
        unfold evI at q
        cases e : evE G sub a ss with
        | ex c => rw [e] at q; exact q
        | bad => rw [e] at q; exact q.elim
        | ok r =>
          rw [e, okb] at q
          intro v F1 H1 x rr
          cases ev : r.view with
          | lst xs =>
            rw [ev] at q
            cases r with
            | bor ys =>
              have e1 : ys = xs := by simpa [R.view] using ev
              subst e1
              obtain ⟨b, us, rfl, h1, h2⟩ := rr
              exact ⟨b, us, rfl, SqL.of h1, q _ F1 H1 x (walkD_enum h2 fun H s => SqL.of (s _ _ h1)) (fun z => by simp [calmI, calmE, e] at z)⟩
            | own ys =>
              have e1 : ys = xs := by simpa [R.view] using ev
              subst e1
              obtain ⟨F2, x2, r2, s2⟩ := RepR.fixE x rr (show R.fix (.own ys) = .ok (.lst ys) from rfl)
              unfold Rep at r2
              obtain ⟨b, us, rfl, h1, h2⟩ := r2
              exact ⟨b, us, rfl, SqL.of (x2.sub _ _ h1), q _ F2 H1 x2 (walkD_enum h2 fun H s => SqL.of (s _ _ (x2.sub _ _ h1))) (fun z => walkD_enum h2 fun H s => SqL.of (s _ _ h1))⟩
            | val d =>
              have e1 : d = .lst xs := by simpa [R.view] using ev
              subst e1
              have r2 : Rep X.K F1 (.lst xs) v := rr
              unfold Rep at r2
              obtain ⟨b, us, rfl, h1, h2⟩ := r2
              exact ⟨b, us, rfl, SqL.of (x.sub _ _ h1), q _ F1 H1 x (walkD_enum h2 fun H s => SqL.of (s _ _ (x.sub _ _ h1))) (fun z => walkD_enum h2 fun H s => SqL.of (s _ _ h1))⟩
          | _ => rw [ev] at q; exact q.elim
      | _ => simp [tgIsTup] at ht
    · cases h
  | .zip a b, X, W, tg, e, g, h => by
    unfold chkI at h
    split at h
    · rename_i f pf y z pos
      simp only [Bool.and_eq_true, decide_eq_true_eq] at h
      obtain ⟨⟨⟨⟨⟨⟨⟨hf, hg⟩, hb⟩, ht⟩, hs⟩, hs2⟩, he⟩, he2⟩ := h
      subst hf
      have A := pa_cons (sndE a g he) (pa_cons (sndE b g he2) pa_nil (starEach_of hs2)) (starEach_of hs)
      have B := pa_consD hs (sndE a g he) (pa_consD hs2 (sndE b g he2) (pa_nilD (Z := Z) (G := G) (sub := sub) (W := W)))
      cases tg with
      | Tuple elts kk tpos =>
        have PA1 := RZ.pi_zipA (p := pf) (pos := pos) (tpos := tpos) (elts := elts) (kk := kk) (glob_of hg) (g.blt _ hb) A (starEach_of hs) (starEach_any (by simp [hs2]))
        have PB1 := RZ.pi_zipA (p := pf) (pos := pos) (tpos := tpos) (elts := elts) (kk := kk) (glob_of hg) (g.blt _ hb) B (starEach_of hs) (starEach_any (by simp [hs2]))
        refine ⟨fun pins s σ H RR I q => ?_⟩
        obtain ⟨F, ss, rel, q⟩ := q
        unfold evI at q
        by_cases cm : calmI G sub (.zip a b) ss = true
        · refine PB1.run pins s σ H RR I ⟨F, ss, rel, ?_⟩
          have cm1 : calmE G sub a ss = true ∧ calmE G sub b ss = true := by simpa only [calmI, Bool.and_eq_true] using cm
          cases e1 : evE G sub a ss with
          | ex c => rw [e1] at q; simp only [evF, e1]; exact q
          | bad => rw [e1] at q; exact q.elim
          | ok r =>
            rw [e1, okb] at q
            obtain ⟨d, hd, hv⟩ : ∃ d, r.fix = .ok d ∧ r.view = d := by
              cases r with
              | val d => exact ⟨d, rfl, rfl⟩
              | own xs => exact ⟨_, rfl, rfl⟩
              | bor xs => have c1 := cm1.1; simp [calmE, e1] at c1
            cases e2 : evE G sub b ss with
            | ex c => rw [e2] at q; simp only [evF, e1, e2, okb, hd]; exact q
            | bad => rw [e2] at q; exact q.elim
            | ok r' =>
              rw [e2, okb] at q
              obtain ⟨d', hd', hv'⟩ : ∃ d, r'.fix = .ok d ∧ r'.view = d := by
                cases r' with
                | val d => exact ⟨d, rfl, rfl⟩
                | own xs => exact ⟨_, rfl, rfl⟩
                | bor xs => have c1 := cm1.2; simp [calmE, e2] at c1
              rw [hv, hv'] at q
              simp only [evF, e1, e2, okb, hd, hd']
              intro vs F2 H2 x rs
              unfold Reps at rs
              obtain ⟨v, r1, rfl, t1, rs⟩ := rs
              unfold Reps at rs
              obtain ⟨v', r2, rfl, t2, rs⟩ := rs
              unfold Reps at rs
              subst rs
              split at q
              · rename_i xs heq
                split at heq
                · cases heq
                  unfold Rep at t1 t2
                  obtain ⟨b1, us1, rfl, h1, h2⟩ := t1
                  obtain ⟨b2, us2, rfl, h3, h4⟩ := t2
                  exact ⟨b1, b2, us1, us2, rfl, .inl ⟨SqL.of (x.sub _ _ h1), SqL.of (x.sub _ _ h3), q _ F2 H2 x (walkD_zipL h2 h4 fun H s => ⟨SqL.of (s _ _ (x.sub _ _ h1)), SqL.of (s _ _ (x.sub _ _ h3))⟩) (fun _ => walkD_zipL h2 h4 fun H s => ⟨SqL.of (s _ _ h1), SqL.of (s _ _ h3)⟩)⟩⟩
                · cases heq
                  unfold Rep at t1 t2
                  obtain ⟨b1, us1, rfl, h1, h2⟩ := t1
                  obtain ⟨b2, us2, rfl, h3, h4⟩ := t2
                  exact ⟨b1, b2, us1, us2, rfl, .inr ⟨Same.seqT x.sub h1, Same.seqT x.sub h3, q _ F2 H2 x (walkD_zipT h2 h4 fun H s => ⟨Same.seqT s (Same.seqT x.sub h1), Same.seqT s (Same.seqT x.sub h3)⟩) (fun _ => walkD_zipT h2 h4 fun H s => ⟨Same.seqT s h1, Same.seqT s h3⟩)⟩⟩
                · cases heq
              · rename_i heq
                exact absurd heq (by split <;> intro z <;> cases z)
              · exact q.elim
        · refine PA1.run pins s σ H RR I ⟨F, ss, rel, ?_⟩
          cases e1 : evE G sub a ss with
          | ex c => rw [e1] at q; exact q
          | bad => rw [e1] at q; exact q.elim
          | ok r =>
            rw [e1, okb] at q
            intro v F1 H1 x rr
            refine ⟨F1, ss, rel.grow x, ?_⟩
            cases e2 : evE G sub b ss with
            | ex c => rw [e2] at q; exact fun H' s => q H' (x.sh.trans s)
            | bad => rw [e2] at q; exact q.elim
            | ok r' =>
              rw [e2, okb] at q
              intro v' F2 H2 x2 rr'
              have x12 := x.trans x2
              have v1 := View.mono x2.sf x2.sh (RepR.view x.sub rr)
              have v2 := RepR.view x2.sub rr'
              split at q
              · rename_i xs heq
                split at heq
                · rename_i us ws ev1 ev2
                  cases heq
                  rw [ev1] at v1
                  rw [ev2] at v2
                  obtain ⟨b1, us1, rfl, h1, h2⟩ := v1.lst
                  obtain ⟨b2, us2, rfl, h3, h4⟩ := v2.lst
                  exact ⟨b1, b2, us1, us2, rfl, .inl ⟨SqL.of h1, SqL.of h3, q _ F2 H2 x12 (walkD_zipL h2 h4 fun H s => ⟨SqL.of (s _ _ h1), SqL.of (s _ _ h3)⟩) (fun z => absurd z cm)⟩⟩
                · rename_i us ws ev1 ev2
                  cases heq
                  rw [ev1] at v1
                  rw [ev2] at v2
                  have t1 : Rep X.K F2 (.tup us) v := v1
                  have t2 : Rep X.K F2 (.tup ws) v' := v2
                  unfold Rep at t1 t2
                  obtain ⟨b1, us1, rfl, h1, h2⟩ := t1
                  obtain ⟨b2, us2, rfl, h3, h4⟩ := t2
                  exact ⟨b1, b2, us1, us2, rfl, .inr ⟨Same.seqT x2.sub h1, Same.seqT x2.sub h3, q _ F2 H2 x12 (walkD_zipT h2 h4 fun H s => ⟨Same.seqT s (Same.seqT x2.sub h1), Same.seqT s (Same.seqT x2.sub h3)⟩) (fun z => absurd z cm)⟩⟩
                · cases heq
              · rename_i heq
                exact absurd heq (by split <;> intro z <;> cases z)
              · exact q.elim
      | _ => simp [tgIsTup] at ht
    · cases h
termination_by a => 3 * sizeOf a
decreasing_by all_goals first | (simp_wf; done) | (simp_wf; omega)
end
end
end EV

set_option Elab.async false
set_option linter.all false
set_option autoImplicit false
set_option maxRecDepth 100000
set_option maxHeartbeats 16000000
/-! EvB8: statements are what the evaluator says. -/
namespace EV
open PySem PySem.Spec PyProof.Rows L2

section
variable (K : PySem.W.Frag) (Z : Z0) (W : WX)
/-- a def's end -/
def RetR (r : R) (v : V) (H' : Hp) : Prop := ∃ F', Ext Z.F0 Z.H0 F' H' ∧ RepR K Z.H0 F' H' r v ∧ (match r with | .bor _ => False | _ => True)
def PostF (z : EV.F) (f : Hp) (D : Ends) : Prop := match z with
  | .nx ss => ∀ σ' H' F', Rel K Z F' ss σ' H' → Same f F' → D.nx σ' H'
  | .bk ss => ∀ σ' H' F', Rel K Z F' ss σ' H' → Same f F' → D.bk σ' H'
  | .ct ss => ∀ σ' H' F', Rel K Z F' ss σ' H' → Same f F' → D.ct σ' H'
  | .rt r => ∀ v H', RetR K Z r v H' → D.rt v H'
  | .ex c ss => ∀ σ' H' F', Rel K Z F' ss σ' H' → Same f F' → W (Z.cls c) none σ' H'
  | .bad => False
def tF (g : List S → EV.F) : TS := fun D σ H => ∃ f ss, Rel K Z f ss σ H ∧ PostF K Z W (g ss) f D
end
section
variable {K : PySem.W.Frag} {Z : Z0} {W : WX}
theorem PostF.grow {z : EV.F} {f f' : Hp} {D : Ends} (h : PostF K Z W z f D) (s : Same f f') : PostF K Z W z f' D := by
  cases z with
  | nx ss => exact fun σ' H' F' r q => h σ' H' F' r (s.trans q)
  | bk ss => exact fun σ' H' F' r q => h σ' H' F' r (s.trans q)
  | ct ss => exact fun σ' H' F' r q => h σ' H' F' r (s.trans q)
  | rt r => exact h
  | ex c ss => exact fun σ' H' F' r q => h σ' H' F' r (s.trans q)
  | bad => exact h
theorem PSs.imp {X : Cx} {e : List Stmt} {t t' : TS} (h : PSs X e t) (i : ∀ D σ H, t' D σ H → t D σ H) : PSs X e t' := ⟨fun pins s σ H D I q => h.run pins s σ H D I (i D σ H q)⟩
theorem PS.imp {X : Cx} {e : Stmt} {t t' : TS} (h : PS X e t) (i : ∀ D σ H, t' D σ H → t D σ H) : PS X e t' := ⟨fun pins s σ H D I q => h.run pins s σ H D I (i D σ H q)⟩
/-- an expression, then what a statement does with it -/
theorem tF_bind {m : List S → M R} {g : List S → R → EV.F} {D : Ends} {σ : L2.St} {H : Hp} (h : tF K Z W (fun ss => (m ss).f ss (g ss)) D σ H) :
    tE K Z W m σ H fun v H1 => ∃ f ss r H0, Rel K Z f ss σ H1 ∧ Same H0 H1 ∧ RepR K H0 f H1 r v ∧ (∀ (i : Nat) (a : Addr), σ[i]? = some (some (V.ref a)) → ∀ xs, ss[i]? = some (S.own xs) → ∃ o, H0 a = some o) ∧ PostF K Z W (g ss r) f D := by
  obtain ⟨f, ss, rel, p⟩ := h
  dsimp only at p
  refine ⟨f, ss, rel, ?_⟩
  cases e : m ss with
  | ok r =>
    rw [e] at p
    intro v F1 H1 x q
    refine ⟨F1, ss, r, H, rel.grow x, x.sh, q, fun i a ha xs hx => ?_, PostF.grow p x.sf⟩
    obtain ⟨b, vs, h1, h2, _⟩ := rel.own i xs hx
    rw [ha] at h1; cases h1
    exact ⟨_, h2⟩
  | ex c =>
    rw [e] at p
    intro H' s
    exact p σ H' f (rel.same s) (Same.refl f)
  | bad => rw [e] at p; exact p.elim
theorem tB_bind {m : List S → M Bool} {g : List S → Bool → EV.F} {D : Ends} {σ : L2.St} {H : Hp} (h : tF K Z W (fun ss => (m ss).f ss (g ss)) D σ H) :
    tB K Z W m σ H fun b H1 => ∃ f ss, Rel K Z f ss σ H1 ∧ m ss = .ok b ∧ PostF K Z W (g ss b) f D := by
  obtain ⟨f, ss, rel, p⟩ := h
  dsimp only at p
  refine ⟨f, ss, rel, ?_⟩
  cases e : m ss with
  | ok r =>
    rw [e] at p
    intro F1 H1 x
    exact ⟨F1, ss, rel.grow x, e, PostF.grow p x.sf⟩
  | ex c =>
    rw [e] at p
    intro H' s
    exact p σ H' f (rel.same s) (Same.refl f)
  | bad => rw [e] at p; exact p.elim
/-- a value goes into a slot -/
theorem putR_ok {i : Nat} {r : R} {ss : List S} {f H0 H1 : Hp} {σ : L2.St} {v : V} {D : Ends} (rel : Rel K Z f ss σ H1) (s : Same H0 H1) (s0 : Same Z.H0 H0) (q : RepR K H0 f H1 r v) (ho : ∀ (i : Nat) (a : Addr), σ[i]? = some (some (V.ref a)) → ∀ xs, ss[i]? = some (S.own xs) → ∃ o, H0 a = some o)
    (p : PostF K Z W (putR i r ss) f D) : D.nx (σ.set i (some v)) H1 := by
  unfold putR at p
  split at p
  · cases r with
    | val d => exact p _ _ f (rel.set q) (Same.refl f)
    | own xs =>
      obtain ⟨a, vs, rfl, h1, h2, h3, h4⟩ := q
      refine p _ _ f (rel.setOwn h1 h2 (s0.free h3) h4 fun j ys n z1 z2 => ?_) (Same.refl f)
      obtain ⟨o, h⟩ := ho j a z2 ys z1
      rw [h3] at h; cases h
    | bor xs => exact p.elim
  · exact p.elim
end

/-! ### the syntax -/
def notLc : Expr → Bool
  | .ListComp _ _ _ _ => false
  | .SetComp _ _ _ _ => false
  | .DictComp _ _ _ _ _ => false
  | _ => true
def notTup : Expr → Bool
  | .Tuple _ _ _ => false
  | _ => true
/-- y = [..]: the comprehension is stored within its own frame -/
def swB (sc : Scope) (y : Str) (py : Pos) : Expr → Option Bool
  | .ListComp _ _ scope pos => if decide (sc.names.lookup y = some .local) && (py.line == pos.line) && !(scope.names.any fun (n, k) => n == y && (k == .local || k == .cell)) then some true
      else if decide (sc.names.lookup y = some .cell) then some false else none
  | e => if notLc e then some false else none
theorem swaps_lc {value : Expr} {tg : Option Expr} {l : Nat} {env : PySem.Env} (h : notLc value = true) : swapsWith value tg l env = pure false := by
  cases value <;> first | rfl | (simp [notLc] at h)
section
variable (St : Stc)
mutual
def chkT (sc : Scope) (calm : Bool) : T → Stmt → Bool
  | .pass, s => (match s with
    | .Pass _ => true
    | .Expr (.Constant (.str _) _ _) _ => true
    | _ => false)
  | .frz _, _ => false
  | .asg tg e, s => (match s with
    | .Assign [t] v pos => chkE St calm sc e v && (match tg, t with
      | .nm i, .Name y py => decide (St.N[i]? = some y) && loc sc y && (match swB sc y py v with
        | some true => calm
        | some false => true
        | none => false)
      | .tup ts, t => calm && tgIsTup t && chkTg St.N sc (.tup ts) t && notLc v && notTup v
      | _, _ => false)
    | _ => false)
  | .par is es, s => (match is, es, s with
    | [i, j], [a, b], .Assign [.Tuple [.Name x px, .Name y py] _ _] (.Tuple [u, v] _ _) _ => calm && decide (i ≠ j) && decide (St.N[i]? = some x) && decide (St.N[j]? = some y) && decide (sc.names.lookup x = some .local) && decide (sc.names.lookup y = some .local) &&
        (py.line == px.line) && decide (x ≠ y) && notStar u && notStar v && !([u, v].all (foldedForSure 8)) && !([u, v].all (constantsAlone 8)) && chkE St calm sc a u && chkE St calm sc b v
    | _, _, _ => false)
  | .setix i ix e, s => (match s with
    | .Assign [.Subscript (.Name y _) x _] v _ => decide (St.N[i]? = some y) && vis sc y && okName y && notSlice x && notLc v && notTup v && chkE St calm sc ix x && chkE St calm sc e v
    | _ => false)
  | .aug i o e, s => (match s with
    | .AugAssign (.Name y _) p v _ => decide (p = o) && (match o with | .Add => true | .Sub => true | .Mult => true | _ => false) && decide (St.N[i]? = some y) && loc sc y && chkE St calm sc e v
    | _ => false)
  | .app i e, s => (match s with
    | .Expr (.Call (.Attribute (.Name y _) m apos) [v] [] cpos) _ => decide (m = "append") && (apos.endLine == cpos.line) && notStar v && decide (St.N[i]? = some y) && vis sc y && okName y && chkE St calm sc e v
    | _ => false)
  | .exp e, s => (match s with
    | .Expr v _ => notLc v && chkE St calm sc e v
    | _ => false)
  | .ret e, s => (match s with
    | .Return (some v) _ => chkE St calm sc e v
    | _ => false)
  | .retN, s => (match s with
    | .Return none _ => true
    | _ => false)
  | .iff c a b, s => (match s with
    | .If t x y _ => testable c && chkE St calm sc c t && chkTs sc calm a x && chkTs sc calm b y
    | _ => false)
  | .whl c b, s => (match s with
    | .While t x [] _ => calm && testable c && chkE St calm sc c t && chkTs sc calm b x
    | _ => false)
  | .forr tg it b, s => (match s with
    | .For t x y [] _ => calm && chkTg St.N sc tg t && chkI St calm sc it t x && notSet x && chkTs sc calm b y
    | _ => false)
  | .brk, s => (match s with
    | .Break _ => true
    | _ => false)
  | .cnt, s => (match s with
    | .Continue _ => true
    | _ => false)
  | .rais c, s => (match s with
    | .Raise (some (.Call (.Name x _) [.Constant (.str _) _ _] [] _)) none _ => calm && glob sc x && okName x && decide ((c, x) ∈ St.exs)
    | _ => false)
  | .tr b hs, s => (match s with
    | .Try x h [] [] _ => calm && !hs.isEmpty && chkTs sc calm b x && chkHs sc hs h
    | _ => false)
def chkTs (sc : Scope) (calm : Bool) : List T → List Stmt → Bool
  | [], s => (match s with | [] => true | _ => false)
  | .frz _ :: ts, s => chkTs sc calm ts s
  | t :: ts, s => (match s with
    | x :: xs => chkT sc calm t x && chkTs sc calm ts xs
    | [] => false)
def chkHs (sc : Scope) : List (List Nat × Option Nat × List T) → List ExceptHandler → Bool
  | [], h => (match h with | [] => true | _ => false)
  | (ks, o, b) :: r, h => (match h with
    | .ExceptHandler (some (.Name c _)) n (x :: xs) _ :: h' => (match ks with | [k] => decide ((k, c) ∈ St.exs) | _ => false) && glob sc c && okName c && (match o, n with
      | none, none => r.all fun h => h.2.1.isNone
      | some i, some y => decide (St.N[i]? = some y) && decide (sc.names.lookup y = some .local) && (match r, h' with | [], [] => true | _, _ => false)
      | _, _ => false) && chkTs sc false b (x :: xs) && chkHs sc r h'
    | _ => false)
end
end
/-- where a statement stands -/
structure GoodS (X : Cx) (St : Stc) (Z : Z0) (W : WX) (G : Env) (sub : Sub) (k : Nat) (calm : Bool) : Prop where
  g : Good X St Z W G sub k calm
  po : calm = true → PassesOwn (model X.prog X.w) X.A X.env X.xe
  st : X.stack = X.env :: X.outer
  fr : X.env.frame = some X.env.locals
  kd : X.env.scope.kind = .function
  fn1 : ∀ x, X.fn x = true
  exc : ∀ p ∈ St.exs, ∃ C, X.mg p.2 = some (.ref C) ∧ Z.cls p.1 = .ref C ∧ PySem.W.excIn X.K C [.type "ValueError", .type "Exception", .type "BaseException", .type "object"] "ValueError.__new__" = true ∧ PySem.W.keepIn X.K (.ref C) = true ∧
    PySem.W.subIn X.K (.ref C) (.type "BaseException") = some true ∧ PySem.W.typeIn X.K (.ref C) = some (.type "type")
  /-- what isinstance asks of an error's class -/
  exd : ∀ c k b, sub c k = some b → ∃ C, Z.cls c = .ref C ∧ ExcC X.K C
section
variable {St : Stc} {Z : Z0} {G : Env} {sub : Sub} {k : Nat} {fuel : Nat}
theorem ip_D {X : Cx} {W : WX} (o : Operator) (ho : (match o with | .Add => true | .Sub => true | .Mult => true | _ => false) = true) : PIp X o (fun x y H Q => ∃ F σ i j, x = .int i ∧ y = .int j ∧ Same F H ∧ PostE X.K Z W (opD o (.int i) (.int j)) F H σ Q) := by
  intro pins s σ H x y v u Q I rx ry h
  obtain ⟨F, σ', i, j, rfl, rfl, sf, p⟩ := h
  cases o <;> first | (cases ho; done) | skip
  · exact augR iop_add I rx ry ⟨i, j, rfl, rfl, p.val sf repInt⟩
  · exact augR iop_sub I rx ry ⟨i, j, rfl, rfl, p.val sf repInt⟩
  · obtain ⟨c, p⟩ := guardM_ok (P := fun m => PostE X.K Z W m F H σ' Q) (show PostE X.K Z W (guardM (decide (i.natAbs.log2 + j.natAbs.log2 < 1000000)) (.ok (.val (.int (i * j))))) F H σ' Q from p) (fun z => z)
    have hc : CMulW i j := by unfold CMulW; exact of_decide_eq_true c
    have om : OpR X (inplaceOp .Mult) (rI CMulW fun i j => .int (i * j)) := opI fun _ _ _ _ _ _ _ hc q => imul_int q hc.ok
    exact augR om I rx ry ⟨i, j, rfl, rfl, hc, p.val sf repInt⟩
theorem swapped2 {env : PySem.Env} {x y : Str} {px py pt pt2 : Pos} {kt k2 : Nat} {a b : Expr} (hk : env.scope.kind = .function) (hx : env.scope.names.lookup x = some .local) (hy : env.scope.names.lookup y = some .local) (hl : (py.line == px.line) = true) (hne : x ≠ y) (ha : notStar a = true) (hb : notStar b = true)
    (hf : [a, b].all (foldedForSure 8) = false) (hc : [a, b].all (constantsAlone 8) = false) : swappedStores [.Tuple [.Name x px, .Name y py] kt pt] (.Tuple [a, b] k2 pt2) env = pure (some [x, y]) := by
  have kx : env.kindOf x = some .local := hx
  have ky : env.kindOf y = some .local := hy
  have hbk : env.blockKind = .function := by unfold Env.blockKind; rw [hk]; rfl
  have hst : ([a, b].any fun | .Starred .. => true | _ => false) = false := by
    have h1 : ∀ e : Expr, notStar e = true → (match e with | .Starred .. => true | _ => false) = false := fun e h => by cases e <;> first | rfl | (simp [notStar] at h)
    simp only [List.any_cons, List.any_nil, Bool.or_false, Bool.or_eq_false_iff]
    exact ⟨h1 a ha, h1 b hb⟩
  have hne' : (y == x) = false := by simpa using fun e : y = x => hne e.symm
  unfold swappedStores
  simp only [hst, hbk, kx, ky, hl, hf, hc, List.length_cons, List.length_nil, List.filterMap_cons, List.filterMap_nil, List.head?_cons, Option.map_some, Option.getD_some, Expr.pos, beq_self_eq_true, Bool.and_self, if_true, List.eraseDups_cons, List.eraseDups_nil]
  have e3 : (0 + 1 + 1 != 0 + 1 + 1 || (List.filter (fun b => !b == x) [y]).eraseDups.length + 1 != 0 + 1 + 1) = false := by
    have : List.filter (fun b => !b == x) [y] = [y] := by simp [List.filter, hne']
    rw [this, List.eraseDups_cons]
    rfl
  rw [e3]
  refine (if_neg (by decide)).trans ((if_neg ?_).trans rfl)
  intro z
  obtain ⟨e, he, q⟩ := List.any_eq_true.mp z
  have hn : notStar e = true := by
    simp only [List.mem_cons, List.not_mem_nil, or_false] at he
    rcases he with rfl | rfl <;> assumption
  cases e <;> first | (cases q; done) | (simp [notStar] at hn)
end
end EV

set_option Elab.async false
set_option linter.all false
set_option autoImplicit false
set_option maxRecDepth 100000
set_option maxHeartbeats 16000000
/-! EvB9: statements are what the evaluator says. -/
namespace EV
open PySem PySem.Spec PyProof.Rows L2
section
variable {St : Stc} {Z : Z0} {G : Env} {sub : Sub} {k : Nat} {fuel : Nat}
theorem GoodS.hloc {X : Cx} {W : WX} {calm : Bool} (g : GoodS X St Z W G sub k calm) : ∀ x, loc X.env.scope x = true → L2.Loc X.env.scope x ∧ (X.fn x = true ∨ X.env.scope.names.lookup x = some .local) :=
  fun x h => ⟨loc_of h, .inl (g.fn1 x)⟩
/-! ### loops -/
theorem while_snd {X : Cx} {W : WX} {c : List S → M Bool} {b : List S → EV.F} : ∀ D σ H, tF X.K Z W (whileN c b fuel) D σ H → tWhile (tB X.K Z W c) (tF X.K Z W b) D σ H := by
  intro D σ H h
  refine ⟨fun m σ H => tF X.K Z W (whileN c b m) D σ H, ⟨fuel, h⟩, fun m σ H h => ?_⟩
  obtain ⟨f, ss, rel, p⟩ := h
  cases m with
  | zero => exact p.elim
  | succ m =>
    refine ⟨f, ss, rel, ?_⟩
    unfold whileN at p
    cases e : c ss with
    | bad => rw [e] at p; exact p.elim
    | ex cc => rw [e] at p; exact fun H' s => p σ H' f (rel.same s) (Same.refl f)
    | ok t =>
      rw [e] at p
      intro F1 H1 x
      have p1 := PostF.grow p x.sf
      have rel1 := rel.grow x
      cases t with
      | false =>
        rw [if_neg Bool.false_ne_true]
        exact p1 σ H1 F1 rel1 (Same.refl _)
      | true =>
        rw [if_pos rfl]
        refine ⟨fun σ H => tF X.K Z W (whileN c b m) D σ H, fun σ' H' q => ⟨m, Nat.lt_succ_self m, q⟩, F1, ss, rel1, ?_⟩
        simp only [M.f, if_true] at p1
        cases e2 : b ss with
        | nx s' => rw [e2] at p1; exact fun σ' H' F' r q => ⟨F', s', r, PostF.grow p1 q⟩
        | ct s' => rw [e2] at p1; exact fun σ' H' F' r q => ⟨F', s', r, PostF.grow p1 q⟩
        | bk s' => rw [e2] at p1; exact p1
        | rt r => rw [e2] at p1; exact p1
        | ex c' s' => rw [e2] at p1; exact p1
        | bad => rw [e2] at p1; exact p1.elim
theorem for_snd {X : Cx} {W : WX} {tg : Tg} {fi : List S → M (List D)} {cm : List S → Bool} {b : List S → EV.F} : ∀ D σ H, tF X.K Z W (fun ss => if cm ss then (fi ss).f ss fun ds => forL (asg tg) b ds ss else .bad) D σ H →
    tFor (tI X.K Z W cm fi) (gT X.K Z tg) (tF X.K Z W b) D σ H := by
  intro D σ H h
  obtain ⟨f, ss, rel, p⟩ := h
  dsimp only at p
  cases ec : cm ss with
  | false => rw [ec, if_neg Bool.false_ne_true] at p; exact p.elim
  | true =>
    rw [ec, if_pos rfl] at p
    refine ⟨f, ss, rel, ?_⟩
    cases e : fi ss with
    | bad => rw [e] at p; exact p.elim
    | ex cc => rw [e] at p; exact fun H' s => p σ H' f (rel.same s) (Same.refl f)
    | ok ds =>
      rw [e] at p
      intro J F1 H1 x wk0 wk1
      have wk := wk1 ec
      have p1 : PostF X.K Z W (forL (asg tg) b ds ss) F1 D := PostF.grow p x.sf
      refine for_it wk (g := gT X.K Z tg) (tb := tF X.K Z W b) (D := D) (σ := σ) (H := H1)
        (fun i σ H => ∃ F2 s2, Rel X.K Z F2 s2 σ H ∧ Same F1 F2 ∧ PostF X.K Z W (forL (asg tg) b (ds.drop i) s2) F2 D)
        ⟨F1, ss, rel.grow x, Same.refl _, by simpa using p1⟩ (fun i σ H _ ⟨F2, s2, r2, sf, _⟩ => sf.trans r2.sub) ?_ ?_
      · rintro i v σ2 H2 H3 hi ⟨F2, s2, r2, sf, p2⟩ y
        obtain ⟨d, F4, hd, x4, rp⟩ := y F2 sf r2.sub
        have hdrop : ds.drop i = d :: ds.drop (i + 1) := by
          rw [List.drop_eq_getElem_cons hi]
          rw [List.getElem?_eq_getElem hi] at hd
          cases hd; rfl
        rw [hdrop] at p2
        unfold forL at p2
        cases ea : asg tg d s2 with
        | none => rw [ea] at p2; exact p2.elim
        | some s3 =>
          rw [ea] at p2
          dsimp only at p2
          refine ⟨F4, s2, d, s3, r2.grow x4, rp, ea, fun σ3 r3 _ => ⟨F4, s3, r3, ?_⟩⟩
          have p4 := PostF.grow p2 x4.sf
          cases e2 : b s3 with
          | nx s' => rw [e2] at p4; exact fun σ' H' F' r q => ⟨F', s', r, (sf.trans x4.sf).trans q, PostF.grow p4 q⟩
          | ct s' => rw [e2] at p4; exact fun σ' H' F' r q => ⟨F', s', r, (sf.trans x4.sf).trans q, PostF.grow p4 q⟩
          | bk s' => rw [e2] at p4; exact p4
          | rt r => rw [e2] at p4; exact p4
          | ex c' s' => rw [e2] at p4; exact p4
          | bad => rw [e2] at p4; exact p4.elim
      · rintro σ2 H2 ⟨F2, s2, r2, sf, p2⟩
        rw [List.drop_length] at p2
        unfold forL at p2
        exact p2 σ2 H2 F2 r2 (Same.refl _)
/-! ### simple statements -/
theorem asg_snd {X : Cx} {W : WX} {i : Nat} {m : List S → M R} : ∀ D σ H, tF X.K Z W (fun ss => (m ss).f ss fun r => putR i r ss) D σ H → tAsg (tE X.K Z W m) (gName i) D σ H := by
  intro D σ H h
  obtain ⟨f, ss, rel, p⟩ := h
  dsimp only at p
  refine ⟨f, ss, rel, ?_⟩
  cases e : m ss with
  | bad => rw [e] at p; exact p.elim
  | ex c => rw [e] at p; exact fun H' s => p σ H' f (rel.same s) (Same.refl f)
  | ok r =>
    rw [e] at p
    intro v F1 H1 x q
    refine putR_ok (rel.grow x) x.sh rel.ext.sh q (fun j a ha xs hx => ?_) (PostF.grow p x.sf)
    obtain ⟨b, vs, h1, h2, _⟩ := rel.own j xs hx
    rw [ha] at h1; cases h1
    exact ⟨_, h2⟩
theorem asgT_snd {X : Cx} {W : WX} {ts : List Tg} {m : List S → M R} : ∀ D σ H, tF X.K Z W (fun ss => (m ss).f ss fun r => asgR (.tup ts) r ss) D σ H → tAsg (tE X.K Z W m) (gT X.K Z (.tup ts)) D σ H := by
  intro D σ H h
  obtain ⟨f, ss, rel, p⟩ := h
  dsimp only at p
  refine ⟨f, ss, rel, ?_⟩
  cases e : m ss with
  | bad => rw [e] at p; exact p.elim
  | ex c => rw [e] at p; exact fun H' s => p σ H' f (rel.same s) (Same.refl f)
  | ok r =>
    rw [e] at p
    intro v F1 H1 x q
    simp only [M.f, asgR] at p
    cases ef : r.fix with
    | ex c => cases r <;> simp [R.fix] at ef
    | bad => rw [ef] at p; exact p.elim
    | ok d =>
      rw [ef] at p
      dsimp only at p
      obtain ⟨F2, x2, r2, s2⟩ := RepR.fixE x q ef
      cases ea : asg (.tup ts) d ss with
      | none => rw [ea] at p; exact p.elim
      | some s3 =>
        rw [ea] at p
        exact ⟨F2, ss, d, s3, rel.grow x2, r2, ea, fun σ3 r3 _ => p σ3 H1 F2 r3 x2.sf⟩
theorem par_snd {X : Cx} {W : WX} {i j : Nat} (hij : i ≠ j) {m : List S → M (List D)} : ∀ D σ H, tF X.K Z W (fun ss => (m ss).f ss fun ds => .ofO (setAll [i, j] ds ss)) D σ H → tPar i j (tDs X.K Z W m) D σ H := by
  intro D σ H h
  obtain ⟨f, ss, rel, p⟩ := h
  dsimp only at p
  refine ⟨f, ss, rel, ?_⟩
  cases e : m ss with
  | bad => rw [e] at p; exact p.elim
  | ex c => rw [e] at p; exact fun H' s => p σ H' f (rel.same s) (Same.refl f)
  | ok ds =>
    rw [e] at p
    intro vs F1 H1 x rs
    simp only [M.f] at p
    match ds, rs, p with
    | [], rs, p => exact p.elim
    | [_], rs, p =>
      exfalso
      unfold setAll at p
      split at p
      · unfold setAll at p; exact p.elim
      · exact p.elim
    | [d1, d2], rs, p =>
      unfold Reps at rs
      obtain ⟨v, r, rfl, r1, rs⟩ := rs
      unfold Reps at rs
      obtain ⟨w, r', rfl, r2, rs⟩ := rs
      unfold Reps at rs
      subst rs
      refine ⟨v, w, rfl, ?_⟩
      unfold setAll at p
      split at p
      · unfold setAll at p
        split at p
        · unfold setAll at p
          simp only [Option.map_some, F.ofO] at p
          have R1 := ((rel.grow x).set (i := j) r2).set (i := i) r1
          have e1 : (σ.set j (some w)).set i (some v) = (σ.set i (some v)).set j (some w) := List.set_comm _ _ (Ne.symm hij)
          rw [e1] at R1
          exact p _ H1 F1 R1 x.sf
        · exact p.elim
      · exact p.elim
    | _ :: _ :: _ :: _, rs, p =>
      exfalso
      unfold setAll at p
      split at p
      · unfold setAll at p
        split at p
        · unfold setAll at p; exact p.elim
        · exact p.elim
      · exact p.elim
theorem setix_snd {X : Cx} {W : WX} {i : Nat} {m n : List S → M R} : ∀ D σ H, tF X.K Z W (fun ss => (m ss).f ss fun r => (r.fix).f ss fun d => ownS ss[i]? fun xs => (n ss).f ss fun x => (asInt x).f ss fun j => setN i xs d (ixN xs.length j) ss) D σ H → tAsg (tE X.K Z W m) (gSub (tVar i) (tE X.K Z W n) rSetL) D σ H := by
  intro D σ H h
  obtain ⟨f, ss, rel, p⟩ := h
  dsimp only at p
  refine ⟨f, ss, rel, ?_⟩
  cases e : m ss with
  | bad => rw [e] at p; exact p.elim
  | ex c => rw [e] at p; exact fun H' s => p σ H' f (rel.same s) (Same.refl f)
  | ok r =>
    rw [e] at p
    intro v F1 H1 x q
    simp only [M.f] at p
    cases ef : r.fix with
    | ex c => cases r <;> simp [R.fix] at ef
    | bad => rw [ef] at p; exact p.elim
    | ok d =>
      rw [ef] at p
      dsimp only at p
      obtain ⟨F2, x2, r2, s2⟩ := RepR.fixE x q ef
      have rel2 := rel.grow x2
      unfold ownS at p
      split at p
      · rename_i xs hs
        obtain ⟨a, vs, h1, h2, h3, h4, h5⟩ := rel2.own i xs hs
        have p2 := PostF.grow p x2.sf
        refine ⟨.ref a, h1, F2, ss, rel2, ?_⟩
        cases e2 : n ss with
        | bad => rw [e2] at p2; exact p2.elim
        | ex c => rw [e2] at p2; exact fun H' s => p2 σ H' F2 (rel2.same s) (Same.refl _)
        | ok y =>
          rw [e2] at p2
          dsimp only at p2
          intro w F3 H3 x3 q3
          cases ei : asInt y with
          | ex c => unfold asInt at ei; split at ei <;> cases ei
          | bad => rw [ei] at p2; exact p2.elim
          | ok jj =>
            rw [ei] at p2
            dsimp only at p2
            cases hn : ixN xs.length jj with
            | none => rw [hn] at p2; exact p2.elim
            | some nn =>
              rw [hn] at p2
              obtain ⟨b, vs3, h1', h2', h3', h4', h5'⟩ := (rel2.grow x3).own i xs hs
              rw [h1] at h1'; cases h1'
              have yv : y = .val (.int jj) := by unfold asInt at ei; split at ei <;> cases ei; rfl
              subst yv
              have q' : Rep X.K F3 (.int jj) w := q3
              unfold Rep at q'
              refine ⟨a, vs3, jj, nn, rfl, q', h2', by rw [← h5'.length, ← ixN_eq]; exact hn, ?_⟩
              exact p2 _ _ F3 ((rel2.grow x3).write hs h1 h2' h3' h4' (Reps.set nn h5' (Rep.mono x3.sf _ _ r2))) x3.sf
      · exact p.elim
theorem aug_snd {X : Cx} {W : WX} {i : Nat} {o : Operator} {m : List S → M R} : ∀ D σ H, tF X.K Z W (fun ss => intS ss[i]? fun x => (m ss).f ss fun r => intR r fun y => (opD o (.int x) (.int y)).f ss fun z => putR i z ss) D σ H → tAug i (tE X.K Z W m) (fun x y H Q => ∃ F σ i j, x = .int i ∧ y = .int j ∧ Same F H ∧ PostE X.K Z W (opD o (.int i) (.int j)) F H σ Q) D σ H := by
  intro D σ H h
  obtain ⟨f, ss, rel, p⟩ := h
  dsimp only at p
  unfold intS at p
  split at p
  · rename_i x hs
    obtain ⟨v, h1, h2⟩ := rel.val i _ hs
    unfold Rep at h2
    subst h2
    refine ⟨_, h1, f, ss, rel, ?_⟩
    cases e : m ss with
    | bad => rw [e] at p; exact p.elim
    | ex c => rw [e] at p; exact fun H' s => p σ H' f (rel.same s) (Same.refl f)
    | ok r =>
      rw [e] at p
      intro w F1 H1 x1 q
      simp only [M.f] at p
      unfold intR at p
      split at p
      · rename_i y
        dsimp only at p
        have q' : Rep X.K F1 (.int y) w := q
        unfold Rep at q'
        subst q'
        have rel1 := rel.grow x1
        refine ⟨F1, σ, x, y, rfl, rfl, x1.sub, ?_⟩
        cases e2 : opD o (.int x) (.int y) with
        | bad => rw [e2] at p; exact p.elim
        | ex c => rw [e2] at p; exact fun H' s => p σ H' F1 (rel1.same s) x1.sf
        | ok z =>
          rw [e2] at p
          intro u F2 H2 x2 q2
          refine putR_ok (rel1.grow x2) x2.sh rel1.ext.sh q2 (fun j a ha xs hx => ?_) (PostF.grow p (x1.sf.trans x2.sf))
          obtain ⟨b, vs, h1, h2, _⟩ := rel1.own j xs hx
          rw [ha] at h1; cases h1
          exact ⟨_, h2⟩
      · exact p.elim
  · exact p.elim
theorem app_snd {X : Cx} {W : WX} {i : Nat} {m : List S → M R} : ∀ D σ H, tF X.K Z W (fun ss => ownS ss[i]? fun xs => (m ss).f ss fun r => (r.fix).f ss fun d => if xs.length < line then .nx (ss.set i (.own (xs ++ [d]))) else .bad) D σ H → tDrop (tBM X.K "list" rAppend (tVar i) (tCons (tE X.K Z W m) tNil)) D σ H := by
  intro D σ H h
  obtain ⟨f, ss, rel, p⟩ := h
  dsimp only at p
  unfold ownS at p
  split at p
  · rename_i xs hs
    obtain ⟨a, vs, h1, h2, h3, h4, h5⟩ := rel.own i xs hs
    refine ⟨.ref a, h1, .inl ⟨rfl, vs, SqL.of h2⟩, f, ss, rel, ?_⟩
    cases e : m ss with
    | bad => rw [e] at p; exact p.elim
    | ex c => rw [e] at p; exact fun H' s => p σ H' f (rel.same s) (Same.refl f)
    | ok r =>
      rw [e] at p
      intro w F1 H1 x q
      simp only [M.f] at p
      cases ef : r.fix with
      | ex c => cases r <;> simp [R.fix] at ef
      | bad => rw [ef] at p; exact p.elim
      | ok d =>
        rw [ef] at p
        dsimp only at p
        split at p
        · rename_i hl
          obtain ⟨F2, x2, r2, s2⟩ := RepR.fixE x q ef
          have rel2 := rel.grow x2
          obtain ⟨b, vs2, h1', h2', h3', h4', h5'⟩ := rel2.own i xs hs
          rw [h1] at h1'; cases h1'
          refine ⟨a, vs2, w, rfl, rfl, h2', by rw [← h5'.length, ← line_eq]; exact hl, ?_⟩
          exact p _ _ F2 (rel2.write hs h1 h2' h3' h4' (Reps.append h5' (Reps.cons r2 Reps.nil))) x2.sf
        · exact p.elim
  · exact p.elim
theorem exp_snd {X : Cx} {W : WX} {m : List S → M R} : ∀ D σ H, tF X.K Z W (fun ss => (m ss).f ss fun _ => .nx ss) D σ H → tDrop (tE X.K Z W m) D σ H := by
  intro D σ H h
  obtain ⟨f, ss, rel, p⟩ := h
  dsimp only at p
  refine ⟨f, ss, rel, ?_⟩
  cases e : m ss with
  | bad => rw [e] at p; exact p.elim
  | ex c => rw [e] at p; exact fun H' s => p σ H' f (rel.same s) (Same.refl f)
  | ok r =>
    rw [e] at p
    intro w F1 H1 x q
    exact p σ H1 F1 (rel.grow x) x.sf
theorem iff_snd {X : Cx} {W : WX} {c : List S → M Bool} {a b : List S → EV.F} : ∀ D σ H, tF X.K Z W (fun ss => (c ss).f ss fun t => if t then a ss else b ss) D σ H → tIfS (tB X.K Z W c) (tF X.K Z W a) (tF X.K Z W b) D σ H := by
  intro D σ H h
  obtain ⟨f, ss, rel, p⟩ := h
  dsimp only at p
  refine ⟨f, ss, rel, ?_⟩
  cases e : c ss with
  | bad => rw [e] at p; exact p.elim
  | ex c => rw [e] at p; exact fun H' s => p σ H' f (rel.same s) (Same.refl f)
  | ok t =>
    rw [e] at p
    intro F1 H1 x
    have p1 := PostF.grow p x.sf
    cases t with
    | true => rw [if_pos rfl]; exact ⟨F1, ss, rel.grow x, p1⟩
    | false => rw [if_neg Bool.false_ne_true]; exact ⟨F1, ss, rel.grow x, p1⟩
theorem retE_snd {X : Cx} {W : WX} {m : List S → M R} : ∀ D σ H, tF X.K Z W (fun ss => (m ss).f ss rtR) D σ H → tRet (tE X.K Z W m) D σ H := by
  intro D σ H h
  obtain ⟨f, ss, rel, p⟩ := h
  dsimp only at p
  refine ⟨f, ss, rel, ?_⟩
  cases e : m ss with
  | bad => rw [e] at p; exact p.elim
  | ex c => rw [e] at p; exact fun H' s => p σ H' f (rel.same s) (Same.refl f)
  | ok r =>
    rw [e] at p
    intro w F1 H1 x q
    have x0 := rel.ext.trans x
    have q0 := RepR.back rel.ext.sh q
    cases r with
    | val d => exact p w H1 ⟨F1, x0, q0, trivial⟩
    | own xs => exact p w H1 ⟨F1, x0, q0, trivial⟩
    | bor xs => exact p.elim
theorem retV_snd {X : Cx} {W : WX} {i : Nat} : ∀ D σ H, tF X.K Z W (fun ss => retS ss[i]?) D σ H → tRet (tVar i) D σ H := by
  intro D σ H h
  obtain ⟨f, ss, rel, p⟩ := h
  dsimp only at p
  unfold retS at p
  split at p
  · rename_i d hd
    obtain ⟨v, h1, h2⟩ := rel.val i d hd
    exact ⟨v, h1, p v H ⟨f, rel.ext, h2, trivial⟩⟩
  · rename_i xs hd
    obtain ⟨a, vs, h1, h2, h3, h4, h5⟩ := rel.own i xs hd
    exact ⟨.ref a, h1, p (.ref a) H ⟨f, rel.ext, ⟨a, vs, rfl, h2, h3, h4, h5⟩, trivial⟩⟩
  · exact p.elim
/-! ### suites -/
/-- the suite's own: the error at a, of the class c, in slot i -/
abbrev Zx (Z : Z0) (a : Addr) (c i : Nat) : Z0 := { Z with hx := some (a, c, i) }
theorem Rel.toX {K : PySem.W.Frag} {f H : Hp} {ss : List S} {σ : L2.St} {a : Addr} {c i : Nat} (hz : Z.hx = none) (r : Rel K Z f ss σ H) : Rel K (Zx Z a c i) f (ss.set i (.exc c)) (σ.set i (some (.ref a))) H := by
  have e := r.emp (i := i) (o := some (.ref a))
  have hs : ∀ (j : Nat) s, i ≠ j → (ss.set i .emp)[j]? = some s → (ss.set i (.exc c))[j]? = some s := fun j s n h => by rw [List.getElem?_set_ne n] at h ⊢; exact h
  have hb : ∀ (j : Nat) s, i ≠ j → (ss.set i (.exc c))[j]? = some s → (ss.set i .emp)[j]? = some s := fun j s n h => by rw [List.getElem?_set_ne n] at h ⊢; exact h
  have hi : ∀ s, (ss.set i (.exc c))[i]? = some s → s = .exc c := fun s h => by
    by_cases hl : i < ss.length
    · rw [List.getElem?_set_self hl] at h; exact (Option.some.inj h).symm
    · rw [List.getElem?_eq_none (by simpa using hl)] at h; cases h
  exact
    { ext := e.ext
      len := by simp [r.len]
      val := fun j d h => by
        by_cases n : i = j
        · subst n; cases hi _ h
        · exact e.val j d (hb j _ n h)
      own := fun j xs h => by
        by_cases n : i = j
        · subst n; cases hi _ h
        · exact e.own j xs (hb j _ n h)
      dis := fun j l xs ys b n h1 h2 h3 h4 => by
        by_cases n1 : i = j
        · subst n1; cases hi _ h1
        · by_cases n2 : i = l
          · subst n2; cases hi _ h2
          · exact e.dis j l xs ys b n (hb j _ n1 h1) (hb l _ n2 h2) h3 h4
      exc := fun j d h => by
        by_cases n : i = j
        · subst n
          cases hi _ h
          refine ⟨a, rfl, ?_⟩
          have hl : i < ss.length := by
            have := (List.getElem?_eq_some_iff.mp h).1
            simpa using this
          rw [List.getElem?_set_self (r.lt hl)]
        · obtain ⟨b, z, _⟩ := e.exc j d (hb j _ n h)
          rw [hz] at z; cases z }
theorem Rel.ofX {K : PySem.W.Frag} {f H : Hp} {ss : List S} {σ : L2.St} {a : Addr} {c i : Nat} (r : Rel K (Zx Z a c i) f ss σ H) : Rel K Z f (ss.set i .emp) (σ.set i none) H := by
  have e := r.emp (i := i) (o := none)
  exact
    { ext := e.ext
      len := e.len
      val := e.val
      own := e.own
      dis := e.dis
      exc := fun j d h => by
        obtain ⟨b, z, _⟩ := e.exc j d h
        have z' : some (a, c, i) = some (b, d, j) := z
        cases z'
        by_cases hl : i < ss.length
        · rw [List.getElem?_set_self hl] at h; cases h
        · rw [List.getElem?_eq_none (by simpa using hl)] at h; cases h }
theorem call_isET {X : Cx} {a D : Addr} {oe : Obj} {pn : List (Addr × Obj)} (C : ExcC X.K D) (hz : Zc (.ref D) none oe) (hf : ∃ vs, oe.data = .fields vs) : CallR (X.suite a ((a, oe) :: pn)) (.builtin "isinstance")
    (fun xs H Q => ∃ (tp : Addr) (cs : List V) (us : List Value) (b : Bool), xs = [.ref a, .ref tp] ∧ H tp = some (.tup cs) ∧ Paired ClsV cs us ∧ PySem.W.kitAny X.K (.ref D) us = some b ∧ Q (.bl b) H) := by
  intro pins s σ H xs us Q I r h
  obtain ⟨tp, cs, ws, b, rfl, hT, k, e, q⟩ := h
  obtain ⟨u1, u2, rfl, r1, r2⟩ := vals2 r
  cases (show u2 = Value.ref tp from r2)
  cases (show u1 = Value.ref a from r1)
  obtain ⟨hget, _⟩ := I.pin (a, oe) (List.mem_append.mpr (.inl List.mem_cons_self))
  obtain ⟨vs, hv⟩ := hf
  have J : PySem.W.InstAt s.heap a oe D none := by
    obtain ⟨oc, od, oda, osl⟩ := oe
    obtain ⟨h1, h2⟩ := hz
    dsimp only at h1 h2 hv
    subst h1 h2 hv
    exact ⟨hget, rfl, rfl, trivial⟩
  obtain ⟨_, its, rv, o, h1, h2, n, h3⟩ := (show ObjOk X.prog X.w H s.heap tp (.tup cs) from I.hok tp _ hT)
  have e3 := ClsV.all k rv
  subst e3
  obtain ⟨oc, od, dt, sl⟩ := o
  simp only at h2 h3
  subst h2 h3
  exact PySem.W.kia_tup (PySem.W.handS_kitx_exc C.hg C.hk C.hs C.hd C.ha C.hn C.ht C.hm) I.kIn J h1 e (fun z => nomatch z) fun tk => ⟨.bl b, H, I.kept (t' := tk) fun _ _ z => z, rfl, q⟩
theorem kitAny_of {X : Cx} {D : Addr} {c : Nat} (hs : ∀ k b, sub c k = some b → PySem.W.kitOne X.K (.ref D) (Z.cls k) = some b) : ∀ (ks : List Nat) (b : Bool), anyO sub c ks = some b → PySem.W.kitAny X.K (.ref D) (ks.map Z.cls) = some b
  | [], b, h => by unfold anyO at h; cases h; exact kitAny_nil
  | k :: ks, b, h => by
    unfold anyO at h
    cases e : sub c k with
    | none => rw [e] at h; cases h
    | some t =>
      rw [e] at h
      cases t with
      | true => cases h; exact kitAny_cons (hs k true e) (fun z => by cases z) (fun _ => rfl)
      | false => exact kitAny_cons (hs k false e) (fun _ => kitAny_of hs ks b h) (fun z => by cases z)
theorem clsV_all : ∀ (Cs : List Addr), Paired ClsV (Cs.map V.ref) (Cs.map Value.ref)
  | [] => .nil
  | C :: Cs => .cons (.own C) (clsV_all Cs)
theorem GoodS.suite {X : Cx} {W : WX} {calm : Bool} (g : GoodS X St Z W G sub k calm) {a : Addr} {oe : Obj} {pn : List (Addr × Obj)} {c i : Nat} (hz : Zc (Z.cls c) none oe) (hf : ∃ vs, oe.data = .fields vs) (hk : ∃ k b, sub c k = some b) :
    GoodS (X.suite a ((a, oe) :: pn)) St (Zx Z a c i) W0 G sub k false := by
  have hisx : ∀ a' c' j, (Zx Z a c i).hx = some (a', c', j) → CallR (X.suite a ((a, oe) :: pn)) (.builtin "isinstance") (rIsX (Zx Z a c i) sub a' c') := by
    intro a' c' j e
    have e' : some (a, c, i) = some (a', c', j) := e
    cases e'
    obtain ⟨kk, bb, hkb⟩ := hk
    obtain ⟨D, hD, xc⟩ := g.exd c kk bb hkb
    rw [hD] at hz
    have C1 := call_isE (X := X) (a := a) (pn := pn) xc hz hf
    have C2 := call_isET (X := X) (a := a) (pn := pn) xc hz hf
    intro pins s σ H xs us Q I r h
    rcases h with ⟨k1, C, b, h1, h2, h3, h4⟩ | ⟨tp, ks, Cs, b, h1, h2, h3, h4, h5⟩
    · refine C1 pins s σ H xs us Q I r ⟨.ref C, .ref C, b, h1, fun u hu => hu, ?_, h4⟩
      have q := (g.g.subx c k1 b h3).2
      have h2' : Z.cls k1 = .ref C := h2
      rw [hD, h2'] at q
      exact q
    · refine C2 pins s σ H xs us Q I r ⟨tp, _, _, b, h1, h2, clsV_all Cs, ?_, h5⟩
      rw [← h3]
      exact kitAny_of (Z := Zx Z a c i) (X := X) (fun k b e => by
        have q := (g.g.subx c k b e).2
        rw [hD] at q
        exact q) ks b h4
  exact { g := ⟨g.g.N, g.g.nd, takes0, (fun z => by cases z), g.g.un, g.g.fn, g.g.blt, g.g.exn, g.g.subx, hisx, g.g.gl⟩, po := (fun z => by cases z), st := g.st, fr := g.fr, kd := g.kd, fn1 := g.fn1, exc := g.exc, exd := g.exd }
theorem GoodS.suite0 {X : Cx} {W : WX} (g : GoodS X St Z W G sub k true) {a : Addr} {pn : List (Addr × Obj)} : GoodS (X.suite a pn) St Z W0 G sub k false := by
  have hisx : ∀ a' c' j, Z.hx = some (a', c', j) → CallR (X.suite a pn) (.builtin "isinstance") (rIsX Z sub a' c') := by
    intro a' c' j e
    rw [(g.g.calm rfl).2.2] at e
    cases e
  exact { g := ⟨g.g.N, g.g.nd, takes0, (fun z => by cases z), g.g.un, g.g.fn, g.g.blt, g.g.exn, g.g.subx, hisx, g.g.gl⟩, po := (fun z => by cases z), st := g.st, fr := g.fr, kd := g.kd, fn1 := g.fn1, exc := g.exc, exd := g.exd }
theorem GoodS.tr {X : Cx} {W W' : WX} {calm : Bool} (g : GoodS X St Z W G sub k calm) {pn : List (Addr × Obj)} {xe : Value → Shared → Prop} (tk : Takes (X.tr pn xe) W') (po : PassesOwn (model X.prog X.w) X.A X.env xe) (hx : Z.hx = none) : GoodS (X.tr pn xe) St Z W' G sub k calm :=
  { g := ⟨g.g.N, g.g.nd, tk, g.g.calm, g.g.un, g.g.fn, g.g.blt, g.g.exn, g.g.subx, fun a' c' j e => (by rw [hx] at e; cases e), g.g.gl⟩
    po := fun _ => po
    st := g.st, fr := g.fr, kd := g.kd, fn1 := g.fn1, exc := g.exc, exd := g.exd }
end
end EV

set_option Elab.async false
set_option linter.all false
set_option autoImplicit false
set_option maxRecDepth 100000
set_option maxHeartbeats 16000000
/-! EvC1: statements are what the evaluator says. -/
namespace EV
open PySem PySem.Spec PyProof.Rows L2
section
variable {St : Stc} {Z : Z0} {G : Env} {sub : Sub} {k : Nat} {fuel : Nat}
theorem swB_ok {sc : Scope} {y : Str} {py : Pos} {v : Expr} {b : Bool} {env : PySem.Env} {l : Nat} (hs : env.scope = sc) (hk : sc.kind = .function) (h : swB sc y py v = some b) : swapsWith v (some (.Name y py)) l env = pure b ∧ (b = true → ∃ elt gs scope pos, v = .ListComp elt gs scope pos) := by
  subst hs
  unfold swB at h
  split at h
  · rename_i elt gs scope pos
    split at h
    · rename_i hc
      cases h
      simp only [Bool.and_eq_true, decide_eq_true_eq, Bool.not_eq_true'] at hc
      exact ⟨sw_true hk hc.1.1 hc.1.2 hc.2, fun _ => ⟨elt, gs, scope, pos, rfl⟩⟩
    · split at h
      · rename_i hc
        cases h
        have hy := of_decide_eq_true hc
        have ky : env.kindOf y = some .cell := hy
        refine ⟨?_, fun z => nomatch z⟩
        unfold swapsWith
        simp only [ky]
        have : (some NameKind.cell == some NameKind.local) = false := by decide
        simp only [this, Bool.and_false, Bool.false_and]
        try rfl
      · cases h
  · split at h
    · rename_i hn
      cases h
      exact ⟨swaps_lc hn, fun z => nomatch z⟩
    · cases h
theorem swapped_none {t v : Expr} {env : PySem.Env} (h : notTup v = true) : swappedStores [t] v env = pure none := by
  cases v <;> first | (simp [notTup] at h; done) | (cases t <;> rfl)
theorem assign_sub {a x : Expr} {pos : Pos} {env : PySem.Env} {v : Value} (h : notSlice x = true) : assign (.Subscript a x pos) env v = (do
    let ov ← holding [v] (eval a env)
    let iv ← holding [v, ov] (eval x env)
    standAt pos
    holding [v, ov, iv] (setItem ov iv v)
    release [v, ov, iv] []) := by
  cases x <;> first | rfl | (simp [notSlice] at h)
theorem aEach1 {t : Expr} {env : PySem.Env} (h : notStar t = true) : (assignEach [t] env).map (·.2) = [assign t env] := by
  rw [assignEach_cons h]; rfl
theorem notStar_tup {t : Expr} (h : tgIsTup t = true) : notStar t = true := by cases t <;> first | rfl | (simp [tgIsTup] at h)
theorem sndLc (vs : List Nat) (tg : Tg) (it : I) (c : Option E) (x : E) {X : Cx} {Z : Z0} {W : WX} {calm : Bool} {i : Nat} {y : Str} {py : Pos} {elt : Expr} {gs : List Comprehension} {scope : Scope} {lpos pos : Pos} (g : GoodS X St Z W G sub k calm)
    (h : chkE St calm X.env.scope (.lc vs tg it c x) (.ListComp elt gs scope lpos) = true) (hN : X.N[i]? = some y) (hyl : X.env.scope.names.lookup y = some .local) (hsw : swapsWith (.ListComp elt gs scope lpos) (some (.Name y py)) pos.line X.env = pure true) :
    PS X (.Assign [.Name y py] (.ListComp elt gs scope lpos) pos) (tF X.K Z W (evT G sub fuel (.asg (.nm i) (.lc vs tg it c x)))) := by
  have h0 := h
  unfold chkE at h
  split at h
  · rename_i elt' t iter ifs as scope' lpos' heq
    cases heq
    simp only [Bool.and_eq_true, decide_eq_true_eq] at h
    obtain ⟨⟨⟨⟨⟨⟨⟨⟨hc, ha⟩, hb⟩, hi⟩, hns⟩, ht⟩, hix⟩, hcd⟩, hx⟩ := h
    subst ha
    have hcalm := (g.g.calm hc).1
    have hz := (g.g.calm hc).2.2
    have bo := blkOk_by (sc := X.env.scope) (own := ownOf St.N vs) (by rw [← g.g.N] at hb; rw [← g.g.N]; exact hb)
    have key := ps_setLc (i := i) (spos := pos) (ifs := ifs) (own := ownOf St.N vs) (g := gT X.K Z tg) (tt := tB X.K Z W0 (evC G sub c)) (te := tE X.K Z W0 (evE G sub x)) (pos := lpos) hcalm g.g.nd hN hyl hsw (sndI it (sub := sub) (tg := t) g.g hi) bo
      (fun s H C cl fp => sndTg (St := St) tg (X := X.blk s H scope (compEnvC scope cl C X.env) fp) hcalm g.g.N g.g.nd (fun y hy => loc_relS (sc := X.env.scope) hy) ht)
      (fun s H C cl fp => sndC c (g.g.blk hz s H scope (compEnvC scope cl C X.env) fp) hcd)
      (fun s H C cl fp => sndE x (g.g.blk hz s H scope (compEnvC scope cl C X.env) fp) hx)
      (notSet_of hns)
    rw [ownOf_snd] at key
    refine PS.imp key fun D σ H ⟨f, ss, rel, p⟩ => ?_
    have p' : PostF X.K Z W ((evE G sub (.lc vs tg it c x) ss).f ss fun r => putR i r ss) f D := by simpa only [evT, asgR] using p
    have q : tE X.K Z W (evE G sub (.lc vs tg it c x)) σ H fun v H1 => D.nx (σ.set i (some v)) H1 := asg_snd D σ H ⟨f, ss, rel, p'⟩
    have q2 : tE X.K Z W (evE G sub (.lc vs tg it c x)) σ H fun x H1 => gName i x σ H1 D.nx := q
    exact lc_snd hix (by simpa only [evE] using q2)
  · cases h
/-- the clauses without a name -/
def lOf (G : Env) (sub : Sub) (fuel : Nat) (K : PySem.W.Frag) (Z : Z0) : List (List Nat × Option Nat × List T) → List (Value × (Addr → Value → Option Addr → TS))
  | [] => []
  | (ks, _, sb) :: r => (Z.cls (ks.headD 0), fun _ _ _ => tF K Z W0 (evTs G sub fuel sb)) :: lOf G sub fuel K Z r
theorem headNone {sc : Scope} {ks : List Nat} {sb : List T} {r : List (List Nat × Option Nat × List T)} {hh : List ExceptHandler} (h : chkHs St sc ((ks, none, sb) :: r) hh = true) : (((ks, none, sb) :: r).all fun h => h.2.1.isNone) = true := by
  unfold chkHs at h
  split at h
  · rename_i cn pc n x xs hpos h'
    simp only [Bool.and_eq_true] at h
    obtain ⟨⟨⟨⟨⟨hk, hg⟩, hok⟩, hno⟩, hsb⟩, hr⟩ := h
    cases n with
    | some y => cases hno
    | none =>
      rw [List.all_cons]
      simpa using hno
  · cases h
theorem wMany_of {X : Cx} {Z : Z0} {W : WX} (g : GoodS X St Z W G sub k true) : ∀ (hs : List (List Nat × Option Nat × List T)) {hh : List ExceptHandler} {c : Nat} {s' : List S} {f : Hp} {D : Ends}, chkHs St X.env.scope hs hh = true → (hs.all fun h => h.2.1.isNone) = true →
    PostF X.K Z W (evHs G sub fuel hs c s') f D → ∀ σ' H' F', Rel X.K Z F' s' σ' H' → Same f F' → wMany X.K W D (lOf G sub fuel X.K Z hs) (Z.cls c) none σ' H'
  | [], hh, c, s', f, D, h, hn, p, σ', H', F', r, q => by
    unfold evHs at p
    exact p σ' H' F' r q
  | (ks, o, sb) :: rs, hh, c, s', f, D, h, hn, p, σ', H', F', r, q => by
    unfold chkHs at h
    split at h
    · rename_i cn pc n x xs hpos h'
      simp only [Bool.and_eq_true, decide_eq_true_eq] at h
      obtain ⟨⟨⟨⟨⟨hk, hg⟩, hok⟩, hno⟩, hsb⟩, hr⟩ := h
      rw [List.all_cons, Bool.and_eq_true] at hn
      cases o with
      | some i => simp at hn
      | none =>
        split at hk
        · rename_i kk
          unfold evHs anyO at p
          cases es : sub c kk with
          | none => rw [es] at p; exact p.elim
          | some t =>
            rw [es] at p
            have hex := (g.g.subx c kk t es).1
            unfold lOf wMany
            refine ⟨t, hex, fun ht a na => ?_, fun ht => ?_⟩
            · subst ht
              have p1 := PostF.grow p q
              refine ⟨F', s', r, ?_⟩
              dsimp only at p1
              cases e2 : evTs G sub fuel sb s' with
              | nx s2 => rw [e2] at p1; exact p1
              | ct s2 => rw [e2] at p1; exact p1
              | bk s2 => rw [e2] at p1; exact p1
              | rt r2 => rw [e2] at p1; exact p1
              | ex c2 s2 => rw [e2] at p1; exact p1.elim
              | bad => rw [e2] at p1; exact p1.elim
            · subst ht
              dsimp only [anyO] at p
              exact wMany_of g rs hr hn.2 p σ' H' F' r q
        · cases hk
    · cases h
mutual
theorem sndTT : ∀ (t : T) {X : Cx} {Z : Z0} {W : WX} {calm : Bool} {s : Stmt}, GoodS X St Z W G sub k calm → chkT St X.env.scope calm t s = true → PS X s (tF X.K Z W (evT G sub fuel t))
  | .pass, X, Z, W, calm, s, g, h => by
    unfold chkT at h
    split at h
    · exact PS.imp ps_pass fun D σ H ⟨f, ss, rel, p⟩ => by unfold evT at p; exact p σ H f rel (Same.refl _)
    · exact PS.imp ps_doc fun D σ H ⟨f, ss, rel, p⟩ => by unfold evT at p; exact p σ H f rel (Same.refl _)
    · cases h
  | .frz i, X, Z, W, calm, s, g, h => by unfold chkT at h; cases h
  | .asg tg e, X, Z, W, calm, s, g, h => by
    unfold chkT at h
    split at h
    · rename_i t v pos
      simp only [Bool.and_eq_true] at h
      obtain ⟨he, ht⟩ := h
      have A := sndE e g.g he
      cases tg with
      | nm i =>
        split at ht
        · rename_i i1 y py heq
          cases heq
          simp only [Bool.and_eq_true, decide_eq_true_eq] at ht
          obtain ⟨⟨hN, hl⟩, hw⟩ := ht
          have hN' : X.N[i]? = some y := by rw [g.g.N]; exact hN
          have hloc := g.hloc y hl
          split at hw
          · rename_i hs
            have hq := swB_ok (env := X.env) (l := pos.line) rfl g.kd hs
            obtain ⟨elt, gs, scope, lpos, rfl⟩ := hq.2 rfl
            have hyl : X.env.scope.names.lookup y = some .local := by
              unfold swB at hs
              dsimp only at hs
              split at hs
              · rename_i hc
                simp only [Bool.and_eq_true, decide_eq_true_eq] at hc
                exact hc.1.1
              · split at hs <;> cases hs
            cases e with
            | lc vs tg' it c x =>
              exact sndLc vs tg' it c x g he hN' hyl hq.1
            | _ => simp [chkE] at he
          · rename_i hs
            have hq := swB_ok (env := X.env) (l := pos.line) rfl g.kd hs
            exact PS.imp (ps_set g.g.nd hN' hloc.1 A hq.1 hloc.2) fun D σ H q => asg_snd D σ H (by simpa only [evT, asgR] using q)
          · cases hw
        · rename_i heq
          cases heq
        · cases ht
      | tup ts =>
        simp only [Bool.and_eq_true] at ht
        obtain ⟨⟨⟨⟨hc, htp⟩, htg⟩, hlc⟩, htu⟩ := ht
        have hcalm := (g.g.calm hc).1
        have T := sndTg (St := St) (Z := Z) (.tup ts) (X := X) (sc := X.env.scope) hcalm g.g.N g.g.nd g.hloc htg
        exact PS.imp (ps_asg A T (by unfold swapsWithSole; exact swaps_lc hlc) (swapped_none htu) (aEach1 (notStar_tup htp))) fun D σ H q => asgT_snd D σ H (by simpa only [evT] using q)
    · cases h
  | .par is es, X, Z, W, calm, s, g, h => by
    unfold chkT at h
    split at h
    · rename_i i j a b x px y py kt pt u v k2 pt2 pos
      simp only [Bool.and_eq_true, decide_eq_true_eq, Bool.not_eq_true'] at h
      obtain ⟨⟨⟨⟨⟨⟨⟨⟨⟨⟨⟨⟨⟨hc, hij⟩, hi⟩, hj⟩, hx⟩, hy⟩, hl⟩, hne⟩, hsu⟩, hsv⟩, hf⟩, hca⟩, ha⟩, hb⟩ := h
      have hcalm := (g.g.calm hc).1
      have A := pa_consD (sub := sub) hsu (sndE a g.g ha) (pa_consD hsv (sndE b g.g hb) (pa_nilD (Z := Z) (G := G) (sub := sub) (W := W)))
      exact PS.imp (ps_par hcalm g.g.nd (by rw [g.g.N]; exact hi) (by rw [g.g.N]; exact hj) hij hx hy A (swapped2 g.kd hx hy hl hne hsu hsv hf hca)) fun D σ H q => par_snd hij D σ H (by simpa only [evT] using q)
    · cases h
  | .setix i ix e, X, Z, W, calm, s, g, h => by
    unfold chkT at h
    split at h
    · rename_i y py x psub v pos
      simp only [Bool.and_eq_true, decide_eq_true_eq] at h
      obtain ⟨⟨⟨⟨⟨⟨⟨hN, hv⟩, hok⟩, hns⟩, hlc⟩, htu⟩, hix⟩, he⟩ := h
      have P := pe_var (pos := py) (i := i) (X := X) (by rw [g.g.N]; exact hN) (vis_of hv) (okName_1 hok) (okName_2 hok)
      exact PS.imp (ps_asg (sndE e g.g he) (pg_sub P (sndE ix g.g hix) set_list (fun v => assign_sub hns)) (by unfold swapsWithSole; exact swaps_lc hlc) (swapped_none htu)) fun D σ H q => setix_snd D σ H (by simpa only [evT] using q)
    · cases h
  | .aug i o e, X, Z, W, calm, s, g, h => by
    unfold chkT at h
    split at h
    · rename_i y py p v pos
      simp only [Bool.and_eq_true, decide_eq_true_eq] at h
      obtain ⟨⟨⟨⟨rfl, ho⟩, hN⟩, hl⟩, he⟩ := h
      have hloc := g.hloc y hl
      exact PS.imp (ps_aug g.g.nd (by rw [g.g.N]; exact hN) hloc.1 (sndE e g.g he) (ip_D (Z := Z) (W := W) _ ho) hloc.2) fun D σ H q => aug_snd D σ H (by simpa only [evT] using q)
    · cases h
  | .app i e, X, Z, W, calm, s, g, h => by
    unfold chkT at h
    split at h
    · rename_i y py m apos v cpos pos
      simp only [Bool.and_eq_true, decide_eq_true_eq] at h
      obtain ⟨⟨⟨⟨⟨⟨hm, hli⟩, hsv⟩, hN⟩, hv⟩, hok⟩, he⟩ := h
      subst hm
      have P := pe_var (pos := py) (i := i) (X := X) (by rw [g.g.N]; exact hN) (vis_of hv) (okName_1 hok) (okName_2 hok)
      have A := pa_cons (sndE e g.g he) pa_nil (starEach_of hsv)
      have C := pe_bm (apos := apos) (cpos := cpos) PySem.F.plainAttrs_list PySem.F.slot_list_append PySem.F.type_list_append mt_append P A rfl (by rw [starEach_of hsv]; rfl) hli (starEach_of hsv) rfl
      exact PS.imp (ps_expr C) fun D σ H q => app_snd D σ H (by simpa only [evT] using q)
    · cases h
  | .exp e, X, Z, W, calm, s, g, h => by
    unfold chkT at h
    split at h
    · simp only [Bool.and_eq_true] at h
      exact PS.imp (ps_expr (sndE e g.g h.2) (swaps_lc h.1)) fun D σ H q => exp_snd D σ H (by simpa only [evT] using q)
    · cases h
  | .ret e, X, Z, W, calm, s, g, h => by
    unfold chkT at h
    split at h
    · rename_i v pos
      have A := sndE e g.g h
      cases e with
      | var i =>
        unfold chkE at h
        split at h
        · rename_i x px
          simp only [Bool.and_eq_true, decide_eq_true_eq] at h
          exact PS.imp (ps_ret (pe_var (i := i) (by rw [g.g.N]; exact h.1.1) (vis_of h.1.2) (okName_1 h.2) (okName_2 h.2))) fun D σ H q => retV_snd D σ H (by simpa only [evT, retR] using q)
        · cases h
      | _ => exact PS.imp (ps_ret A) fun D σ H q => retE_snd D σ H (by simpa only [evT, retR] using q)
    · cases h
  | .retN, X, Z, W, calm, s, g, h => by
    unfold chkT at h
    split at h
    · refine PS.imp ps_retN fun D σ H ⟨f, ss, rel, p⟩ => ?_
      unfold evT at p
      exact p .non H ⟨f, rel.ext, (show Rep X.K f .non .non from repNon), trivial⟩
    · cases h
  | .iff c a b, X, Z, W, calm, s, g, h => by
    unfold chkT at h
    split at h
    · simp only [Bool.and_eq_true] at h
      obtain ⟨⟨⟨ht, hc⟩, ha⟩, hb⟩ := h
      exact PS.imp (ps_if (sndT c ht g.g hc) (sndTs a g ha) (sndTs b g hb)) fun D σ H q => iff_snd D σ H (by simpa only [evT] using q)
    · cases h
  | .whl c b, X, Z, W, calm, s, g, h => by
    unfold chkT at h
    split at h
    · simp only [Bool.and_eq_true] at h
      obtain ⟨⟨⟨hcm, ht⟩, hc⟩, hb⟩ := h
      exact PS.imp (ps_while (g.po hcm) (sndT c ht g.g hc) (sndTs b g hb)) fun D σ H q => while_snd D σ H (by simpa only [evT] using q)
    · cases h
  | .forr tg it b, X, Z, W, calm, s, g, h => by
    unfold chkT at h
    split at h
    · simp only [Bool.and_eq_true] at h
      obtain ⟨⟨⟨⟨hcm, ht⟩, hi⟩, hs⟩, hb⟩ := h
      have hcalm := (g.g.calm hcm).1
      exact PS.imp (ps_for (g.po hcm) hcalm (sndI it g.g hi) (sndTg (St := St) (Z := Z) tg (X := X) (sc := X.env.scope) hcalm g.g.N g.g.nd g.hloc ht) (sndTs b g hb) (notSet_of hs)) fun D σ H q => for_snd D σ H (by simpa only [evT] using q)
    · cases h
  | .brk, X, Z, W, calm, s, g, h => by
    unfold chkT at h
    split at h
    · exact PS.imp ps_break fun D σ H ⟨f, ss, rel, p⟩ => by unfold evT at p; exact p σ H f rel (Same.refl _)
    · cases h
  | .cnt, X, Z, W, calm, s, g, h => by
    unfold chkT at h
    split at h
    · exact PS.imp ps_continue fun D σ H ⟨f, ss, rel, p⟩ => by unfold evT at p; exact p σ H f rel (Same.refl _)
    · cases h
  | .rais c, X, Z, W, calm, s, g, h => by
    unfold chkT at h
    split at h
    · simp only [Bool.and_eq_true, decide_eq_true_eq] at h
      obtain ⟨⟨⟨hc, hg⟩, hok⟩, hx⟩ := h
      obtain ⟨C, h1, h2, h3, h4, h5, h6⟩ := g.exc _ hx
      refine PS.imp (ps_raise (g.g.calm hc).1 g.g.tk (pmk_own PySem.F.excBase_ValueError h3 h1 h4 (raises_own h5 h6) (glob_of hg) (okName_1 hok))) fun D σ H ⟨f, ss, rel, p⟩ => ?_
      unfold evT at p
      have q := p σ H f rel (Same.refl _)
      rw [h2] at q
      exact q
    · cases h
  | .tr b hs, X, Z, W, calm, s, g, h => by
    unfold chkT at h
    split at h
    · rename_i x hh pos
      simp only [Bool.and_eq_true] at h
      obtain ⟨⟨⟨hc, hne⟩, hb⟩, hhs⟩ := h
      subst hc
      have hz := (g.g.calm rfl).2.2
      have B := fun (W' : WX) (pn : List (Addr × Obj)) (xe : Value → Shared → Prop) (tk : Takes (X.tr pn xe) W') (po : PassesOwn (model X.prog X.w) X.A X.env xe) => sndTs b (g.tr tk po hz) hb
      exact sndHs hs b g hz B hhs (by intro z; subst z; simp at hne)
    · cases h
theorem sndTs : ∀ (ts : List T) {X : Cx} {Z : Z0} {W : WX} {calm : Bool} {s : List Stmt}, GoodS X St Z W G sub k calm → chkTs St X.env.scope calm ts s = true → PSs X s (tF X.K Z W (evTs G sub fuel ts))
  | [], X, Z, W, calm, s, g, h => by
    unfold chkTs at h
    split at h
    · exact PSs.imp pss_nil fun D σ H ⟨f, ss, rel, p⟩ => by unfold evTs at p; exact p σ H f rel (Same.refl _)
    · cases h
  | t :: ts, X, Z, W, calm, s, g, h => by
    by_cases hf : ∃ i, t = .frz i
    · obtain ⟨i, rfl⟩ := hf
      have h' : chkTs St X.env.scope calm ts s = true := by unfold chkTs at h; exact h
      refine PSs.imp (sndTs ts g h') fun D σ H ⟨f, ss, rel, p⟩ => ?_
      unfold evTs evT frzS at p
      cases hx : ss[i]? with
      | none => rw [hx] at p; exact p.elim
      | some z =>
        rw [hx] at p
        cases z with
        | own xs =>
          obtain ⟨f', r', sf⟩ := rel.frz hx
          exact ⟨f', _, r', PostF.grow p sf⟩
        | emp => exact ⟨f, ss, rel, p⟩
        | val d => exact ⟨f, ss, rel, p⟩
        | exc c => exact ⟨f, ss, rel, p⟩
    · have hcons : ∃ x xs, s = x :: xs ∧ chkT St X.env.scope calm t x = true ∧ chkTs St X.env.scope calm ts xs = true := by
        cases t <;> first
          | (exact absurd ⟨_, rfl⟩ hf)
          | (unfold chkTs at h
             split at h
             · simp only [Bool.and_eq_true] at h
               exact ⟨_, _, rfl, h.1, h.2⟩
             · cases h)
      obtain ⟨x, xs, rfl, h1, h2⟩ := hcons
      refine PSs.imp (pss_cons (sndTT t g h1) (sndTs ts g h2)) fun D σ H ⟨f, ss, rel, p⟩ => ⟨f, ss, rel, ?_⟩
      unfold evTs at p
      cases e : evT G sub fuel t ss with
      | nx s' => rw [e] at p; exact fun σ' H' F' r q => ⟨F', s', r, PostF.grow p q⟩
      | ct s' => rw [e] at p; exact p
      | bk s' => rw [e] at p; exact p
      | rt r => rw [e] at p; exact p
      | ex c' s' => rw [e] at p; exact p
      | bad => rw [e] at p; exact p.elim
theorem sndHs : ∀ (hs : List (List Nat × Option Nat × List T)) (b : List T) {X : Cx} {Z : Z0} {W : WX} {body : List Stmt} {hh : List ExceptHandler} {pos : Pos}, GoodS X St Z W G sub k true → Z.hx = none →
    (∀ (W' : WX) (pn : List (Addr × Obj)) (xe : Value → Shared → Prop), Takes (X.tr pn xe) W' → PassesOwn (model X.prog X.w) X.A X.env xe → PSs (X.tr pn xe) body (tF X.K Z W' (evTs G sub fuel b))) →
    chkHs St X.env.scope hs hh = true → hs ≠ [] → PS X (.Try body hh [] [] pos) (tF X.K Z W (evT G sub fuel (.tr b hs)))
  | [], b, X, Z, W, body, hh, pos, g, hz, B, h, hne => absurd rfl hne
  | (ks, none, sb) :: r, b, X, Z, W, body, hh, pos, g, hz, B, h, hne => by
    have hd := sndHd ((ks, none, sb) :: r) g hz h (headNone h)
    cases hh with
    | nil => simp [chkHs] at h
    | cons h0 hr =>
      refine PS.imp (ps_try_many (Wout := W) (tb := fun W' => tF X.K Z W' (evTs G sub fuel b)) g.st g.fr g.g.tk B hd) fun D σ H ⟨f, ss, rel, p⟩ => ⟨f, ss, rel, ?_⟩
      unfold evT at p
      cases e : evTs G sub fuel b ss with
      | nx s' => rw [e] at p; exact p
      | ct s' => rw [e] at p; exact p
      | bk s' => rw [e] at p; exact p
      | rt r => rw [e] at p; exact p
      | bad => rw [e] at p; exact p.elim
      | ex c s' => rw [e] at p; exact wMany_of g _ h (headNone h) p
  | [(ks, some i, sb)], b, X, Z, W, body, hh, pos, g, hz, B, h, hne => by
    unfold chkHs at h
    split at h
    · rename_i cn pc n x xs hpos h'
      simp only [Bool.and_eq_true, decide_eq_true_eq] at h
      obtain ⟨⟨⟨⟨⟨hk, hg⟩, hok⟩, hn⟩, hsb⟩, hr⟩ := h
      cases n with
      | none => cases hn
      | some y =>
        simp only [Bool.and_eq_true, decide_eq_true_eq] at hn
        obtain ⟨⟨hN, hy⟩, hl⟩ := hn
        cases h' with
        | cons _ _ => cases hl
        | nil =>
          split at hk
          · rename_i kk
            have hx := of_decide_eq_true hk
            obtain ⟨C, hC, hcl⟩ := g.g.exn _ hx
            have hcl' : Z.cls kk = .ref C := hcl
            have suite : ∀ (a : Addr) (oe : Obj) (cls : Value) (d : Option Addr) (pn : List (Addr × Obj)), Zc cls d oe → (∃ vs, oe.data = .fields vs) → PSs (X.suite a ((a, oe) :: pn)) (x :: xs)
                (fun D σ H => ∃ c f ss, cls = Z.cls c ∧ d = none ∧ (∃ k b, sub c k = some b) ∧ Rel X.K (Zx Z a c i) f ss σ H ∧ PostF X.K (Zx Z a c i) W0 (evTs G sub fuel sb ss) f D) := by
              intro a oe cls d pn hzc hf
              refine ⟨fun pins s σ H D I q => ?_⟩
              obtain ⟨c, f, ss, rfl, rfl, hk, rel, p⟩ := q
              exact (sndTs sb (g.suite (i := i) hzc hf hk) hsb).run pins s σ H D I ⟨f, ss, rel, p⟩
            refine PS.imp (ps_try_as (Wout := W) (i := i) (tb := fun W' => tF X.K Z W' (evTs G sub fuel b)) g.st g.fr g.g.nd (by rw [g.g.N]; exact hN) hy ⟨glob_of hg, okName_1 hok, .inl hC⟩ g.g.tk B
              (fun a oe cls d pn hzc hf => suite a oe cls d pn hzc hf)) fun D σ H ⟨f, ss, rel, p⟩ => ⟨f, ss, rel, ?_⟩
            unfold evT at p
            cases e : evTs G sub fuel b ss with
            | nx s' => rw [e] at p; exact p
            | ct s' => rw [e] at p; exact p
            | bk s' => rw [e] at p; exact p
            | rt r => rw [e] at p; exact p
            | bad => rw [e] at p; exact p.elim
            | ex c s' =>
              rw [e] at p
              dsimp only at p
              intro σ' H' F' rl sf
              have p1 := PostF.grow p sf
              unfold evHs anyO at p1
              cases es : sub c kk with
              | none => rw [es] at p1; exact p1.elim
              | some t =>
                rw [es] at p1
                have hex := (g.g.subx c kk t es).1
                rw [hcl'] at hex
                refine ⟨t, hex, fun ht a na => ?_, fun ht => ?_⟩
                · subst ht
                  dsimp only at p1
                  split at p1
                  · refine ⟨c, F', s'.set i (.exc c), rfl, rfl, ⟨kk, true, es⟩, rl.toX hz, ?_⟩
                    cases e2 : evTs G sub fuel sb (s'.set i (.exc c)) with
                    | nx s2 => rw [e2] at p1; exact fun σ2 H2 F2 r2 q2 => p1 _ H2 F2 (Rel.ofX r2) q2
                    | ct s2 => rw [e2] at p1; exact fun σ2 H2 F2 r2 q2 => p1 _ H2 F2 (Rel.ofX r2) q2
                    | bk s2 => rw [e2] at p1; exact fun σ2 H2 F2 r2 q2 => p1 _ H2 F2 (Rel.ofX r2) q2
                    | rt r2 => rw [e2] at p1; exact p1
                    | ex c2 s2 => rw [e2] at p1; exact p1.elim
                    | bad => rw [e2] at p1; exact p1.elim
                  · exact p1.elim
                · subst ht
                  dsimp only [anyO] at p1
                  unfold evHs at p1
                  exact p1 σ' H' F' rl (Same.refl _)
          · cases hk
    · cases h
  | (ks, some i, sb) :: h2 :: r, b, X, Z, W, body, hh, pos, g, hz, B, h, hne => by
    exfalso
    unfold chkHs at h
    split at h
    · rename_i cn pc n x xs hpos h'
      simp only [Bool.and_eq_true, decide_eq_true_eq] at h
      obtain ⟨⟨⟨⟨⟨hk, hg⟩, hok⟩, hn⟩, hsb⟩, hr⟩ := h
      cases n with
      | none => cases hn
      | some y =>
        simp only [Bool.and_eq_true, decide_eq_true_eq] at hn
        obtain ⟨⟨hN, hy⟩, hl⟩ := hn
        cases hl
    · cases h
theorem sndHd : ∀ (hs : List (List Nat × Option Nat × List T)) {X : Cx} {Z : Z0} {W : WX} {hh : List ExceptHandler}, GoodS X St Z W G sub k true → Z.hx = none → chkHs St X.env.scope hs hh = true → (hs.all fun h => h.2.1.isNone) = true →
    HdsOk X hh (lOf G sub fuel X.K Z hs)
  | [], X, Z, W, hh, g, hz, h, hn => by
    unfold chkHs at h
    split at h
    · exact .nil
    · cases h
  | (ks, o, sb) :: r, X, Z, W, hh, g, hz, h, hn => by
    unfold chkHs at h
    split at h
    · rename_i cn pc n x xs hpos h'
      simp only [Bool.and_eq_true, decide_eq_true_eq] at h
      obtain ⟨⟨⟨⟨⟨hk, hg⟩, hok⟩, hno⟩, hsb⟩, hr⟩ := h
      rw [List.all_cons, Bool.and_eq_true] at hn
      cases o with
      | some i => simp at hn
      | none =>
        cases n with
        | some y => cases hno
        | none =>
          split at hk
          · rename_i kk
            have hx := of_decide_eq_true hk
            obtain ⟨C, hC, hcl⟩ := g.g.exn _ hx
            have hcl' : Z.cls kk = .ref C := hcl
            unfold lOf
            refine .cons ⟨glob_of hg, okName_1 hok, .inl (by show X.mg cn = some (Z.cls kk); rw [hcl']; exact hC)⟩ (fun a oe cls d pn hzc hf => ?_) (sndHd r g hz hr hn.2)
            exact sndTs sb g.suite0 hsb
          · cases hk
    · cases h
end
end
end EV

set_option Elab.async false
set_option linter.all false
set_option autoImplicit false
set_option maxRecDepth 100000
set_option maxHeartbeats 16000000
/-! EvC2: defs and whole texts are what the evaluator says. -/
namespace EV
open PySem PySem.Spec PyProof.Rows L2
/-- what the written part says: names, constants, errors -/
structure PF (K : PySem.W.Frag) (mg : Str → Option Value) (St : Stc) (sub : Sub) (cls : Nat → Value) : Prop where
  blt : ∀ x ∈ St.blts, mg x = none
  gl : ∀ p ∈ St.gls, ∃ u v, mg p.1 = some u ∧ L2.RelV v u ∧ ∀ F, Rep K F p.2 v
  exc : ∀ p ∈ St.exs, ∃ C, mg p.2 = some (.ref C) ∧ cls p.1 = .ref C ∧ PySem.W.excIn K C [.type "ValueError", .type "Exception", .type "BaseException", .type "object"] "ValueError.__new__" = true ∧ PySem.W.keepIn K (.ref C) = true ∧
    PySem.W.subIn K (.ref C) (.type "BaseException") = some true ∧ PySem.W.typeIn K (.ref C) = some (.type "type")
  subx : ∀ c k b, sub c k = some b → PySem.W.exmOne K (cls c) (cls k) = some b ∧ PySem.W.kitOne K (cls c) (cls k) = some b
  exd : ∀ c k b, sub c k = some b → ∃ C, cls c = .ref C ∧ ExcC K C
/-- the defs that are there -/
def FnsOk (P : Program) (w : World) (K : PySem.W.Frag) (mg : Str → Option Value) (base : Heap) (fn : List (Nat × Str × Nat)) (cls : Nat → Value) (G : Env) (k : Nat) : Prop :=
  ∀ f g, G f = some g → ∃ x ar fa fd ps, (∀ p ∈ fn, p.1 = f → p.2.1 = x) ∧ mg x = some (.ref fa) ∧ PySem.W.keepIn K (.ref fa) = true ∧ Binds K fd ps [] ∧ ps.length = ar ∧ (∀ ds, g ds ≠ .bad → ds.length = ar) ∧ FnOk P w K mg base (L2.CX P w) k fa fd ps (spF K cls ar g)
section
variable {P : Program} {w : World} {K : PySem.W.Frag} {mg : Str → Option Value} {base : Heap} {St : Stc} {sub : Sub} {cls : Nat → Value} {G : Env} {k fuel : Nat}
theorem start_rel {F H : Hp} {N : List Str} {ds : List D} {vs : List V} (s : Same F H) (r : Reps K F ds vs) : Rel K ⟨F, H, cls, none⟩ F (startS N.length ds) (L2.start N vs) H := by
  have hl := r.length
  unfold startS L2.start
  have none_of : ∀ (i : Nat) x, (ds.map S.val ++ List.replicate (N.length - ds.length) S.emp)[i]? = some x → x = .emp ∨ ∃ d, ds[i]? = some d ∧ x = .val d := by
    intro i x h
    by_cases hi : i < ds.length
    · rw [List.getElem?_append_left (by simpa using hi), List.getElem?_map, List.getElem?_eq_getElem hi] at h
      cases h
      exact .inr ⟨ds[i], List.getElem?_eq_getElem hi, rfl⟩
    · rw [List.getElem?_append_right (by simp; omega)] at h
      have := List.getElem?_eq_some_iff.mp h
      obtain ⟨h1, h2⟩ := this
      rw [List.getElem_replicate] at h2
      exact .inl h2.symm
  exact
    { ext := Ext.refl s
      len := by simp [hl]
      val := fun i d h => by
        rcases none_of i _ h with e | ⟨d', h1, h2⟩
        · cases e
        · cases h2
          obtain ⟨v, h3, h4⟩ := r.get h1
          refine ⟨v, ?_, h4⟩
          have hi := (List.getElem?_eq_some_iff.mp h3).1
          rw [List.getElem?_append_left (by simpa using hi), List.getElem?_map, h3]
          rfl
      own := fun i xs h => by
        rcases none_of i _ h with e | ⟨d', h1, h2⟩
        · cases e
        · cases h2
      dis := fun i j xs ys a n h1 h2 h3 h4 => by
        rcases none_of i _ h1 with e | ⟨d', _, h2⟩
        · cases e
        · cases h2
      exc := fun i c h => by
        rcases none_of i _ h with e | ⟨d', h1, h2⟩
        · cases e
        · cases h2 }
/-- A DEF is what the evaluator says of its body -/
theorem fn_ok {x qual : Str} {st : Stmt} {f : Addr} {fd : FuncData} {ps : List Str} {fn : Fn} (pf : PF K mg St sub cls) (fo : FnsOk P w K mg base St.fn cls G k) (F : Fun K x qual st f fd) (S : FnScope St.N ps (defScope st))
    (har : fn.ar = ps.length) (hsl : fn.sl = St.N.length) (hchk : chkTs St (defScope st) true fn.body (defBody st) = true) : FnOk P w K mg base (L2.CX P w) (k + 1) f fd ps (spF K cls fn.ar (fn.run G sub fuel)) := by
  refine F.okX S (fun vs H Q E h => ?_) (fun cdv A outer s H vs Q E hr h => ?_)
  · obtain ⟨F, ds, _, r, hl, _⟩ := h
    rw [← r.length, hl, har]
  · obtain ⟨Fz, ds, sf, r, hl, hp⟩ := h
    have g : GoodS (cxOf (L2.CX P w) P w K mg base St.N qual (defScope st) f cdv A outer s H E) St ⟨Fz, H, cls, none⟩ (fun c d _ H => E c d H) G sub k true :=
      { g := ⟨rfl, S.nd, takes_of rfl rfl rfl rfl, fun _ => ⟨rfl, hr, rfl⟩, (by have := hr.un; show (A.deeper _).units + 65 < cLine; omega), fo, pf.blt, (fun p hp => by obtain ⟨C, h1, h2, _⟩ := pf.exc p hp; exact ⟨C, h1, h2⟩), pf.subx, (fun _ _ _ z => by cases z), pf.gl⟩
        po := fun _ => passes_of rfl
        st := rfl, fr := rfl, kd := S.kind, fn1 := fun _ => rfl, exc := pf.exc, exd := pf.exd }
    refine ⟨_, sndTs (fuel := fuel) fn.body g hchk, Fz, startS St.N.length ds, start_rel sf r, ?_⟩
    unfold Fn.run at hp
    rw [if_pos hl, hsl] at hp
    cases e : evTs G sub fuel fn.body (startS St.N.length ds) with
    | nx ss =>
      rw [e] at hp
      exact fun σ' H' F' r' q => hp .non F' H' r'.ext (show Rep K F' .non .non from repNon)
    | rt rr =>
      rw [e] at hp
      intro v H' ⟨F', x, q, nb⟩
      cases rr with
      | val d => exact hp v F' H' x q
      | own xs => exact hp v F' H' x q
      | bor xs => exact nb.elim
    | ex c ss =>
      rw [e] at hp
      exact fun σ' H' F' r' q => hp H' r'.ext.sh
    | bk ss => rw [e] at hp; exact hp.elim
    | ct ss => rw [e] at hp; exact hp.elim
    | bad => rw [e] at hp; exact hp.elim
end
def scB (N ps : List Str) (sc : Scope) : Bool :=
  (match sc.kind with | .function => true | _ => false) && !sc.isCoroutine && !sc.isGenerator && decide N.Nodup && decide (N.take ps.length = ps) && (ps.all fun x => loc sc x) && (sc.names.all fun y => match y.2 with | .free => false | _ => true)
theorem scB_ok {N ps : List Str} {sc : Scope} (h : scB N ps sc = true) : FnScope N ps sc := by
  unfold scB at h
  simp only [Bool.and_eq_true, decide_eq_true_eq, Bool.not_eq_true', List.all_eq_true] at h
  obtain ⟨⟨⟨⟨⟨⟨h1, h2⟩, h3⟩, h4⟩, h5⟩, h6⟩, h7⟩ := h
  refine ⟨?_, h2, h3, h4, h5, fun x hx => loc_of (h6 x hx), fun y hy z => ?_⟩
  · split at h1
    · assumption
    · cases h1
  · have := h7 y hy
    rw [z] at this
    cases this
/-- the looks at one def -/
def chkD (St : Stc) (d : Def) (st : Stmt) : Bool := scB d.N d.ps (defScope st) && chkTs { St with N := d.N } (defScope st) true d.body (defBody st)
def chkFn (fn : List (Nat × Str × Nat)) : Bool := fn.all fun p => fn.all fun q => !(decide (p.1 = q.1)) || decide (p.2.1 = q.2.1)
section
variable {P : Program} {w : World} {K : PySem.W.Frag} {mg : Str → Option Value} {base : Heap} {St : Stc} {sub : Sub} {cls : Nat → Value} {fuel : Nat}
theorem PF.N {N : List Str} (h : PF K mg St sub cls) : PF K mg { St with N := N } sub cls := ⟨h.blt, h.gl, h.exc, h.subx, h.exd⟩
theorem run_len {G : Env} {f : Fn} {ds : List D} (h : f.run G sub fuel ds ≠ .bad) : ds.length = f.ar := by
  unfold Fn.run at h
  split at h
  · assumption
  · exact absurd rfl h
/-- what the top has left of a def -/
def DefAt (K : PySem.W.Frag) (mg : Str → Option Value) (d : Def) (st : Stmt) : Prop := ∃ fa fd, mg d.name = some (.ref fa) ∧ Fun K d.name d.name st fa fd ∧ Binds K fd d.ps []
theorem text_ok (pf : PF K mg St sub cls) (hfn : chkFn St.fn = true) : ∀ (ds : List (Def × Stmt)), (∀ d ∈ ds, chkD St d.1 d.2 = true ∧ (∃ n, (d.1.id, d.1.name, n) ∈ St.fn) ∧ DefAt K mg d.1 d.2) → FnsOk P w K mg base St.fn cls (envOf sub fuel (ds.map (·.1))) ds.length
  | [], _ => fun f g h => by
    simp [envOf] at h
  | (d, st) :: ds, h => by
    have ih := text_ok pf hfn ds fun d hd => h d (List.mem_cons_of_mem _ hd)
    obtain ⟨hc, ⟨n, hm⟩, fa, fd, h1, h2, h3⟩ := h (d, st) List.mem_cons_self
    intro f g e
    simp only [List.map_cons, envOf] at e
    split at e
    · rename_i hf
      cases e
      unfold chkD at hc
      rw [Bool.and_eq_true] at hc
      have key := fn_ok (fn := d.fn) (fuel := fuel) (St := { St with N := d.N }) pf.N ih h2 (scB_ok hc.1) rfl rfl hc.2
      refine ⟨d.name, d.ps.length, fa, fd, d.ps, fun p hp hpf => ?_, h1, h2.kp, h3, rfl, fun ds h => run_len h, key⟩
      unfold chkFn at hfn
      have q := List.all_eq_true.mp (List.all_eq_true.mp hfn p hp) _ hm
      rw [Bool.or_eq_true, Bool.not_eq_true', decide_eq_false_iff_not, decide_eq_true_eq] at q
      rcases q with q | q
      · exact absurd (hpf.trans hf) q
      · exact q
    · obtain ⟨x, ar, fa, fd, ps, q1, q2, q3, q4, q5, q6, q7⟩ := ih f g e
      exact ⟨x, ar, fa, fd, ps, q1, q2, q3, q4, q5, q6, q7.mono (Nat.le_succ _)⟩
/-- THE END: the law's own def -/
theorem law_ok (pf : PF K mg St sub cls) (hfn : chkFn St.fn = true) {d : Def} {st : Stmt} {ds : List (Def × Stmt)} {fa : Addr} {fd : FuncData} (h : ∀ d ∈ ds, chkD St d.1 d.2 = true ∧ (∃ n, (d.1.id, d.1.name, n) ∈ St.fn) ∧ DefAt K mg d.1 d.2)
    (hc : chkD St d st = true) (F : Fun K d.name d.name st fa fd) : FnOk P w K mg base (L2.CX P w) (ds.length + 1) fa fd d.ps (spF K cls d.ps.length (d.fn.run (envOf sub fuel (ds.map (·.1))) sub fuel)) := by
  unfold chkD at hc
  rw [Bool.and_eq_true] at hc
  exact fn_ok (fn := d.fn) (fuel := fuel) (St := { St with N := d.N }) pf.N (text_ok pf hfn ds h) F (scB_ok hc.1) rfl rfl hc.2
theorem cx_false {P : Program} {w : World} {H : Hp} {s : Shared} {e : Value} {s' : Shared} (h : L2.CX P w [] H s (fun _ _ _ => False) e s') : False := by
  obtain ⟨_, _, _, _, _, _, _, _, _, _, _, _, z⟩ := h
  exact z.elim
theorem kit_of_exm {K : PySem.W.Frag} {t c : Value} {b : Bool} (h : PySem.W.exmOne K t c = some b) (hs : PySem.W.exmOne K t t = some true) : PySem.W.kitOne K t c = some b := by
  by_cases e : t = c
  · subst e
    rw [hs] at h
    cases h
    unfold PySem.W.kitOne
    rw [if_pos (beq_self_eq_true t)]
  · have e' : (t == c) = false := by simpa using e
    unfold PySem.W.kitOne
    rw [e', if_neg Bool.false_ne_true]
    unfold PySem.W.exmOne at h
    split at h
    · exact h
    · cases h
theorem errs_of {K : PySem.W.Frag} {C D : Addr} {b : Bool} (h1 : PySem.W.subIn K (.ref C) (.type "BaseException") = some true) (h2 : PySem.W.hasDictIn K C = true) (h3 : PySem.W.typeIn K (.ref C) = some (.type "type")) (h4 : PySem.W.subIn K (.ref D) (.ref C) = some b)
    (g1 : PySem.W.subIn K (.ref D) (.type "BaseException") = some true) (g2 : PySem.W.hasDictIn K D = true) (g3 : PySem.W.typeIn K (.ref D) = some (.type "type")) (g4 : PySem.W.subIn K (.ref D) (.ref D) = some true) :
    PySem.W.exmOne K (.ref D) (.ref C) = some b ∧ PySem.W.kitOne K (.ref D) (.ref C) = some b := by
  have a := PySem.W.exm_ref (K := K) (C := C) (cls := .ref D) h1 h2 h3 h4
  exact ⟨a, kit_of_exm a (PySem.W.exm_ref (K := K) (C := D) (cls := .ref D) g1 g2 g3 g4)⟩
/-- the goal that k_head leaves, where the promise hangs on the written part alone -/
theorem walk_ofX {l : PySem.W.OpenLaw} {n k : Nat} {q : Program} {loose : List Str} {XP : (Str → Option Value) → Heap → Prop} {YP : World → Heap → Prop} {d : DefRec} {K : Params → PySem.W.Frag} {sp : PySem.W.Frag → Sp} {x : Str}
    (hn : l.most = some n) (hn2 : n ≤ sizeLine) (hdf : d.params.defaults = []) (hr : Room k callerA)
    (hY : ∀ (w : World) (h : Heap), YP w h → (K w.params).In h)
    (F : ∀ (w : World) (mg : Str → Option Value) (fa : Addr) (h : Heap), (K w.params).In h → h.Ns mainGlobals mg → mg d.name = some (.ref fa) →
      ∃ fd : FuncData, (∀ (s : Shared) (u : Value), BindsTo s fd ⟨[u], []⟩ [(x, u)]) ∧
        ∀ base : Heap, (K w.params).In base → base.Ns mainGlobals mg → FnOk l.prog w (K w.params) mg base (L2.CX l.prog w) k fa fd [x] (sp (K w.params)))
    (hsp : ∀ (K : PySem.W.Frag) (H : Hp) (a : Addr) (ns : List Int), ns.length ≤ n → SqL K H a (ns.map V.int) → sp K [.ref a] H (fun v _ => v = .bl true) fun _ _ _ => False) :
    PySem.W.WalkO q loose XP YP l.row.toRowW d [] (fun f vs => PySem.call f vs) :=
  L2.walk_of (l := l) (n := n) (k := k) (x := x) (CX := fun w => L2.CX l.prog w) (sp := fun w => sp (K w.params)) hn hn2 hdf hr hY F (fun w H a ns h1 _ h2 => hsp _ H a ns h1 h2) (fun _ _ _ _ _ h => cx_false h)
/-- a script -/
def scrOf (ns : List Int) : D := .scr (ns.map .int)
theorem reps_ints {F : Hp} : ∀ ns : List Int, Reps K F (ns.map D.int) (ns.map V.int)
  | [] => Reps.nil
  | n :: ns => Reps.cons repInt (reps_ints ns)
theorem law_sp {g : List D → M R} {H : Hp} {a : Addr} {ns : List Int} (hS : SqL K H a (ns.map V.int)) (h : g [scrOf ns] = .ok (.val (.bl true))) : spF K cls 1 g [.ref a] H (fun v _ => v = .bl true) fun _ _ _ => False := by
  refine ⟨H, [scrOf ns], Same.refl _, Reps.cons ?_ Reps.nil, rfl, ?_⟩
  · unfold scrOf Rep
    exact ⟨a, ns.map V.int, rfl, hS, reps_ints ns⟩
  · rw [h]
    intro v F' H' x q
    have q' : Rep K F' (.bl true) v := q
    unfold Rep at q'
    exact q'
end
end EV

set_option linter.all false
set_option autoImplicit false
namespace EV
/-! EvD1: plain helpers for the laws: Euclid, loops. -/
theorem euclid_while {c : List S → M Bool} {b : List S → F}
    (hc : ∀ x y : Int, c [.val (.int x), .val (.int y)] = .ok (!decide (y = 0)))
    (hb : ∀ x y : Int, 0 ≤ x → 0 < y → b [.val (.int x), .val (.int y)] = .nx [.val (.int y), .val (.int (x % y))]) :
    ∀ (m n : Nat) (x y : Nat), y < 2 ^ m → 2 * m + 1 ≤ n → whileN c b n [.val (.int x), .val (.int y)] = .nx [.val (.int (Nat.gcd x y : Nat)), .val (.int 0)] := by
  intro m
  induction m with
  | zero =>
    intro n x y h hn
    obtain ⟨n, rfl⟩ : ∃ k, n = k + 1 := ⟨n - 1, by omega⟩
    have : y = 0 := by simpa using h
    subst this
    simp [whileN, hc, M.f]
  | succ m ih =>
    intro n x y h hn
    obtain ⟨n, rfl⟩ : ∃ k, n = k + 1 := ⟨n - 1, by omega⟩
    by_cases hy : y = 0
    · subst hy
      simp [whileN, hc, M.f]
    · have hy' : (0 : Int) < (y : Int) := by omega
      have hr : x % y < y := Nat.mod_lt _ (by omega)
      have e : (x : Int) % (y : Int) = ((x % y : Nat) : Int) := by simp
      have g : Nat.gcd x y = Nat.gcd y (x % y) := by rw [Nat.gcd_comm x y, Nat.gcd_rec y x, Nat.gcd_comm]
      have hy2 : ¬ ((y : Int) = 0) := by omega
      simp only [whileN, hc, M.f, hy2, decide_false, Bool.not_false, if_true, hb _ _ (Int.natCast_nonneg x) hy', e]
      by_cases hr2 : x % y < 2 ^ m
      · rw [ih n y (x % y) hr2 (by omega), g]
      · obtain ⟨n, rfl⟩ : ∃ k, n = k + 1 := ⟨n - 1, by omega⟩
        have p2 : 2 ^ (m+1) = 2 * 2 ^ m := by rw [Nat.pow_succ]; omega
        have hr0 : (0 : Int) < ((x % y : Nat) : Int) := by have := Nat.two_pow_pos m; omega
        have hr3 : ¬ (((x % y : Nat) : Int) = 0) := by omega
        have e2 : (y : Int) % ((x % y : Nat) : Int) = ((y % (x % y) : Nat) : Int) := by simp
        have q : y % (x % y) < 2 ^ m := by
          have h1 : y % (x % y) = (y - x % y) % (x % y) := Nat.mod_eq_sub_mod (by omega)
          have h2 := Nat.mod_le (y - x % y) (x % y)
          omega
        have g2 : Nat.gcd y (x % y) = Nat.gcd (x % y) (y % (x % y)) := by rw [Nat.gcd_comm y (x % y), Nat.gcd_rec (x % y) y, Nat.gcd_comm]
        simp only [whileN, hc, M.f, hr3, decide_false, Bool.not_false, if_true, hb _ _ (Int.natCast_nonneg y) hr0, e2]
        rw [ih n _ _ q (by omega), g, g2]

theorem euclid_for {g : D → List S → Option (List S)} {b : List S → F}
    (hg : ∀ (k : Nat) x y z, g (.int k) [x, y, z] = some [x, y, .val (.int k)])
    (h0 : ∀ (x : Int) (k : Nat), b [.val (.int x), .val (.int 0), .val (.int k)] = .bk [.val (.int x), .val (.int 0), .val (.int k)])
    (hb : ∀ (x y : Int) (k : Nat), 0 ≤ x → 0 < y → b [.val (.int x), .val (.int y), .val (.int k)] = .nx [.val (.int y), .val (.int (x % y)), .val (.int k)]) :
    ∀ (m : Nat) (ks : List Nat) (x y : Nat) (z : S), y < 2 ^ m → 2 * m + 1 ≤ ks.length → ∃ z', forL g b (ks.map fun k : Nat => D.int k) [.val (.int x), .val (.int y), z] = .nx [.val (.int (Nat.gcd x y : Nat)), .val (.int 0), z'] := by
  intro m
  induction m with
  | zero =>
    intro ks x y z h hn
    obtain ⟨k, ks, rfl⟩ := List.length_pos_iff_exists_cons.mp (by omega : 0 < ks.length)
    have : y = 0 := by simpa using h
    subst this
    simp [forL, hg, h0]
  | succ m ih =>
    intro ks x y z h hn
    obtain ⟨k, ks, rfl⟩ := List.length_pos_iff_exists_cons.mp (by omega : 0 < ks.length)
    simp only [List.length_cons] at hn
    by_cases hy : y = 0
    · subst hy
      simp [forL, hg, h0]
    · have hy' : (0 : Int) < (y : Int) := by omega
      have hr : x % y < y := Nat.mod_lt _ (by omega)
      have e : (x : Int) % (y : Int) = ((x % y : Nat) : Int) := by simp
      have g' : Nat.gcd x y = Nat.gcd y (x % y) := by rw [Nat.gcd_comm x y, Nat.gcd_rec y x, Nat.gcd_comm]
      simp only [List.map_cons, forL, hg, hb _ _ _ (Int.natCast_nonneg x) hy', e]
      by_cases hr2 : x % y < 2 ^ m
      · rw [g']; exact ih ks y (x % y) _ hr2 (by omega)
      · obtain ⟨k2, ks, rfl⟩ := List.length_pos_iff_exists_cons.mp (by omega : 0 < ks.length)
        simp only [List.length_cons] at hn
        have p2 : 2 ^ (m+1) = 2 * 2 ^ m := by rw [Nat.pow_succ]; omega
        have hr0 : (0 : Int) < ((x % y : Nat) : Int) := by have := Nat.two_pow_pos m; omega
        have e2 : (y : Int) % ((x % y : Nat) : Int) = ((y % (x % y) : Nat) : Int) := by simp
        have q : y % (x % y) < 2 ^ m := by
          have h1 : y % (x % y) = (y - x % y) % (x % y) := Nat.mod_eq_sub_mod (by omega)
          have h2 := Nat.mod_le (y - x % y) (x % y)
          omega
        have g2 : Nat.gcd y (x % y) = Nat.gcd (x % y) (y % (x % y)) := by rw [Nat.gcd_comm y (x % y), Nat.gcd_rec (x % y) y, Nat.gcd_comm]
        simp only [List.map_cons, forL, hg, hb _ _ _ (Int.natCast_nonneg y) hr0, e2]
        rw [g', g2]
        exact ih ks _ _ _ q (by omega)
/-- a for with an invariant -/
theorem forL_inv {g : D → List S → Option (List S)} {b : List S → F} (P : Nat → List S → Prop)
    (ds : List D) (ss : List S) (h0 : P 0 ss)
    (hs : ∀ (i : Nat) (d : D) (s : List S), ds[i]? = some d → P i s → ∃ s1, g d s = some s1 ∧ ∃ s', b s1 = .nx s' ∧ P (i + 1) s') :
    ∃ s', forL g b ds ss = .nx s' ∧ P ds.length s' := by
  suffices H : ∀ (r : List D) (i : Nat) (s : List S), ds.drop i = r → i ≤ ds.length → P i s → ∃ s', forL g b r s = .nx s' ∧ P ds.length s' from H ds 0 ss rfl (Nat.zero_le _) h0
  intro r
  induction r with
  | nil =>
    intro i s hr hi hp
    have : ds.length ≤ i := List.drop_eq_nil_iff.mp hr
    have : i = ds.length := by omega
    subst this
    exact ⟨s, rfl, hp⟩
  | cons d r ih =>
    intro i s hr hi hp
    have hl : i < ds.length := by
      refine Nat.lt_of_not_le fun h => ?_
      rw [List.drop_eq_nil_of_le h] at hr; cases hr
    have hd : ds[i]? = some d := by
      have := List.getElem?_drop (xs := ds) (i := i) (j := 0)
      rw [hr] at this
      simpa using this.symm
    obtain ⟨s1, h1, s', h2, h3⟩ := hs i d s hd hp
    have hr' : ds.drop (i + 1) = r := by
      have := congrArg List.tail hr
      rw [List.tail_drop] at this
      exact this
    obtain ⟨s'', h4, h5⟩ := ih (i + 1) s' hr' (by omega) h3
    exact ⟨s'', by simp only [forL, h1, h2]; exact h4, h5⟩
/-- a for with an invariant that may end early with a break -/
theorem forL_invb {g : D → List S → Option (List S)} {b : List S → F} (P : Nat → List S → Prop) (Q : List S → Prop)
    (ds : List D) (ss : List S) (h0 : P 0 ss) (hQ : ∀ s, P ds.length s → Q s)
    (hs : ∀ (i : Nat) (d : D) (s : List S), ds[i]? = some d → P i s → ∃ s1, g d s = some s1 ∧ ∃ s', (b s1 = .nx s' ∧ P (i + 1) s' ∨ b s1 = .bk s' ∧ Q s')) :
    ∃ s', forL g b ds ss = .nx s' ∧ Q s' := by
  suffices H : ∀ (r : List D) (i : Nat) (s : List S), ds.drop i = r → i ≤ ds.length → P i s → ∃ s', forL g b r s = .nx s' ∧ Q s' from H ds 0 ss rfl (Nat.zero_le _) h0
  intro r
  induction r with
  | nil =>
    intro i s hr hi hp
    have : ds.length ≤ i := List.drop_eq_nil_iff.mp hr
    have : i = ds.length := by omega
    subst this
    exact ⟨s, rfl, hQ s hp⟩
  | cons d r ih =>
    intro i s hr hi hp
    have hl : i < ds.length := by
      refine Nat.lt_of_not_le fun h => ?_
      rw [List.drop_eq_nil_of_le h] at hr; cases hr
    have hd : ds[i]? = some d := by
      have := List.getElem?_drop (xs := ds) (i := i) (j := 0)
      rw [hr] at this
      simpa using this.symm
    obtain ⟨s1, h1, s', h2⟩ := hs i d s hd hp
    have hr' : ds.drop (i + 1) = r := by
      have := congrArg List.tail hr
      rw [List.tail_drop] at this
      exact this
    rcases h2 with ⟨h2, h3⟩ | ⟨h2, h3⟩
    · obtain ⟨s'', h4, h5⟩ := ih (i + 1) s' hr' (by omega) h3
      exact ⟨s'', by simp only [forL, h1, h2]; exact h4, h5⟩
    · exact ⟨s', by simp only [forL, h1, h2], h3⟩
/-- a for with an invariant that may end early with a return -/
theorem forL_rt {g : D → List S → Option (List S)} {b : List S → F} (P : Nat → List S → Prop) (Q : R → Prop)
    (ds : List D) (ss : List S) (h0 : P 0 ss)
    (hs : ∀ (i : Nat) (d : D) (s : List S), ds[i]? = some d → P i s → ∃ s1, g d s = some s1 ∧ ((∃ s', b s1 = .nx s' ∧ P (i + 1) s') ∨ ∃ r, b s1 = .rt r ∧ Q r)) :
    (∃ s', forL g b ds ss = .nx s' ∧ P ds.length s') ∨ ∃ r, forL g b ds ss = .rt r ∧ Q r := by
  suffices H : ∀ (r : List D) (i : Nat) (s : List S), ds.drop i = r → i ≤ ds.length → P i s → (∃ s', forL g b r s = .nx s' ∧ P ds.length s') ∨ ∃ q, forL g b r s = .rt q ∧ Q q from H ds 0 ss rfl (Nat.zero_le _) h0
  intro r
  induction r with
  | nil =>
    intro i s hr hi hp
    have : ds.length ≤ i := List.drop_eq_nil_iff.mp hr
    have : i = ds.length := by omega
    subst this
    exact .inl ⟨s, rfl, hp⟩
  | cons d r ih =>
    intro i s hr hi hp
    have hl : i < ds.length := by
      refine Nat.lt_of_not_le fun h => ?_
      rw [List.drop_eq_nil_of_le h] at hr; cases hr
    have hd : ds[i]? = some d := by
      have := List.getElem?_drop (xs := ds) (i := i) (j := 0)
      rw [hr] at this
      simpa using this.symm
    obtain ⟨s1, h1, h2⟩ := hs i d s hd hp
    have hr' : ds.drop (i + 1) = r := by
      have := congrArg List.tail hr
      rw [List.tail_drop] at this
      exact this
    rcases h2 with ⟨s', h2, h3⟩ | ⟨q, h2, h3⟩
    · rcases ih (i + 1) s' hr' (by omega) h3 with ⟨s'', h4, h5⟩ | ⟨s'', h4, h5⟩
      · exact .inl ⟨s'', by simp only [forL, h1, h2]; exact h4, h5⟩
      · exact .inr ⟨s'', by simp only [forL, h1, h2]; exact h4, h5⟩
    · exact .inr ⟨q, by simp only [forL, h1, h2], h3⟩
theorem rngL_get {lo hi : Int} {i : Nat} {d : D} (h : (rngL lo hi)[i]? = some d) : d = .int (lo + i) ∧ lo + i < hi := by
  unfold rngL at h
  rw [List.getElem?_map] at h
  cases h1 : (List.range (hi - lo).toNat)[i]? with
  | none => rw [h1] at h; cases h
  | some j =>
    rw [h1] at h
    rw [List.getElem?_eq_some_iff] at h1
    obtain ⟨h2, h3⟩ := h1
    rw [List.getElem_range] at h3
    subst h3
    rw [List.length_range] at h2
    cases h
    exact ⟨rfl, by omega⟩
theorem rngL_len {lo hi : Int} : (rngL lo hi).length = (hi - lo).toNat := by
  unfold rngL; rw [List.length_map, List.length_range]
end EV

set_option linter.all false
set_option autoImplicit false
namespace EV
/-! EvD2: sizes of numbers; what an Env has. -/
/-- a has at most k binary figures -/
def Sz (a : Int) (k : Nat) : Prop := a.natAbs < 2 ^ k
namespace Sz
variable {a b : Int} {k m : Nat}
theorem mono (h : Sz a k) (hk : k ≤ m) : Sz a m := Nat.lt_of_lt_of_le h (Nat.pow_le_pow_right (by omega) hk)
theorem neg (h : Sz a k) : Sz (-a) k := by unfold Sz at *; rw [Int.natAbs_neg]; exact h
theorem abs (h : Sz a k) : Sz (a.natAbs : Int) k := by unfold Sz at *; simpa using h
theorem mul (h : Sz a k) (h' : Sz b m) : Sz (a * b) (k + m) := by
  unfold Sz at *
  rw [Int.natAbs_mul, Nat.pow_add]
  exact Nat.mul_lt_mul'' h h'
theorem add (h : Sz a k) (h' : Sz b k) : Sz (a + b) (k + 1) := by
  unfold Sz at *
  rw [Nat.pow_succ]; have := Int.natAbs_add_le a b; omega
theorem add' (h : Sz a k) (h' : Sz b m) : Sz (a + b) (max k m + 1) := add (mono h (Nat.le_max_left ..)) (mono h' (Nat.le_max_right ..))
theorem sub' (h : Sz a k) (h' : Sz b m) : Sz (a - b) (max k m + 1) := by rw [Int.sub_eq_add_neg]; exact add' h (neg h')
theorem emod (h : Sz b k) (hb : 0 < b) : Sz (a % b) k := by
  unfold Sz at *
  have h1 := Int.emod_nonneg a (Int.ne_of_gt hb)
  have h2 := Int.emod_lt_of_pos a hb
  omega
theorem ediv (h : Sz a k) : Sz (a / b) k := by
  unfold Sz at *
  exact Nat.lt_of_le_of_lt (Int.natAbs_ediv_le_natAbs a b) h
theorem log2 (h : Sz a k) : a.natAbs.log2 ≤ k := by
  unfold Sz at *
  by_cases h0 : a.natAbs = 0
  · rw [h0]; exact Nat.zero_le _
  · exact Nat.le_of_lt ((Nat.log2_lt h0).mpr h)
theorem of_lt {n : Nat} (h1 : 0 ≤ a) (h2 : a < (n : Int)) (h3 : n ≤ 2 ^ k) : Sz a k := by
  unfold Sz; omega
theorem gcd_left {x y : Int} (h : Sz x k) (hx : x ≠ 0) : Sz (Int.gcd x y) k := by
  unfold Sz at *
  have : Int.gcd x y ≤ x.natAbs := Nat.gcd_le_left _ (Int.natAbs_pos.mpr hx)
  simp only [Int.natAbs_natCast]
  omega
theorem gcd_right {x y : Int} (h : Sz y k) (hy : y ≠ 0) : Sz (Int.gcd x y) k := by
  rw [Int.gcd_comm]; exact gcd_left h hy
theorem gcd (h : Sz a k) (h' : Sz b m) : Sz (Int.gcd a b) (max k m) := by
  by_cases ha : a = 0
  · subst ha
    rw [Int.gcd_zero_left]; exact mono (abs h') (Nat.le_max_right ..)
  · exact mono (gcd_left h ha) (Nat.le_max_left ..)
end Sz
@[simp] theorem opD_add {i j : Int} : opD .Add (.int i) (.int j) = .ok (.val (.int (i + j))) := rfl
@[simp] theorem opD_sub {i j : Int} : opD .Sub (.int i) (.int j) = .ok (.val (.int (i - j))) := rfl
theorem opD_mul {i j : Int} (h : i.natAbs.log2 + j.natAbs.log2 < 1000000) : opD .Mult (.int i) (.int j) = .ok (.val (.int (i * j))) := by
  simp only [opD, guardM, h, decide_true, if_true]
theorem opD_mulS {i j : Int} {k m : Nat} (h : Sz i k) (h' : Sz j m) (hk : k + m < 1000000) : opD .Mult (.int i) (.int j) = .ok (.val (.int (i * j))) :=
  opD_mul (by have := h.log2; have := h'.log2; omega)
theorem opD_div {i j : Int} (h : 0 < j) (h2 : j.natAbs.log2 < 9000) : opD .FloorDiv (.int i) (.int j) = .ok (.val (.int (i / j))) := by
  simp only [opD, guardM, h, h2, decide_true, Bool.and_self, if_true]
theorem opD_divS {i j : Int} {k : Nat} (h : 0 < j) (h2 : Sz j k) (hk : k < 9000) : opD .FloorDiv (.int i) (.int j) = .ok (.val (.int (i / j))) :=
  opD_div h (by have := h2.log2; omega)
theorem opD_mod {i j : Int} (h : 0 < j) : opD .Mod (.int i) (.int j) = .ok (.val (.int (i % j))) := by
  simp only [opD, guardM, h, decide_true, if_true]
theorem abs_eq (i : Int) : (if i < 0 then -i else i) = (i.natAbs : Int) := by split <;> omega
@[simp] theorem deepM_ii {i j : Int} {b : Bool} : deepM (.int i) (.int j) b = .ok (.val (.bl b)) := by
  simp only [deepM, wf, Bool.and_self, guardM, if_true]
@[simp] theorem deepM_bb {i j : Bool} {b : Bool} : deepM (.bl i) (.bl j) b = .ok (.val (.bl b)) := by
  simp only [deepM, wf, Bool.and_self, guardM, if_true]
@[simp] theorem eqD_ii {i j : Int} : eqD (.int i) (.int j) = decide (i = j) := by
  rw [eqD]; exact Bool.beq_eq_decide_eq i j
@[simp] theorem eqD_bb {i j : Bool} : eqD (.bl i) (.bl j) = decide (i = j) := by
  rw [eqD]; exact Bool.beq_eq_decide_eq i j
@[simp] theorem M_bind_ok {α β : Type} (a : α) (f : α → M β) : M.bind (.ok a) f = f a := by simp only [M.bind]
@[simp] theorem M_bind_ex {α β : Type} (c : Nat) (f : α → M β) : M.bind (.ex c) f = .ex c := rfl
@[simp] theorem M_f_ok {α : Type} (a : α) (ss : List S) (k : α → F) : M.f (.ok a) ss k = k a := by simp only [M.f]
@[simp] theorem M_f_ex {α : Type} (c : Nat) (ss : List S) (k : α → F) : M.f (.ex c : M α) ss k = .ex c ss := rfl
@[simp] theorem guardM_true {α : Type} (m : M α) : guardM true m = m := by simp only [guardM, if_true]
@[simp] theorem asBool_bl (b : Bool) : asBool (.val (.bl b)) = .ok b := rfl
@[simp] theorem asInt_int (b : Int) : asInt (.val (.int b)) = .ok b := rfl
@[simp] theorem ofO_some {α : Type} (a : α) : M.ofO (some a) = .ok a := rfl
@[simp] theorem Fix_val (d : D) : R.fix (.val d) = .ok d := rfl
@[simp] theorem Fix_own (d : List D) : R.fix (.own d) = .ok (.lst d) := rfl
@[simp] theorem View_val (d : D) : R.view (.val d) = d := rfl
@[simp] theorem View_own (d : List D) : R.view (.own d) = .lst d := rfl
@[simp] theorem View_bor (d : List D) : R.view (.bor d) = .lst d := rfl
@[simp] theorem callG_some (g : List D → M R) (ds : List D) : callG (some g) (.ok ds) = g ds := rfl
@[simp] theorem FofO_some (ss : List S) : F.ofO (some ss) = .nx ss := rfl
/-- the Env has, under this number, a def that keeps P -/
def Has (G : Env) (i : Nat) (P : (List D → M R) → Prop) : Prop := ∃ g, G i = some g ∧ P g
/-- the def of this number, and those behind it -/
def findDef (i : Nat) : List Def → Option (Def × List Def)
  | [] => none
  | d :: ds => if i = d.id then some (d, ds) else findDef i ds
theorem envOf_find {sub : Sub} {fuel : Nat} {i : Nat} {d : Def} {r : List Def} : ∀ {ds : List Def}, findDef i ds = some (d, r) → envOf sub fuel ds i = some (d.fn.run (envOf sub fuel r) sub fuel)
  | [], h => nomatch h
  | e :: ds, h => by
    unfold findDef at h
    rw [show envOf sub fuel (e :: ds) i = if i = e.id then some (e.fn.run (envOf sub fuel ds) sub fuel) else envOf sub fuel ds i from rfl]
    split at h
    · rename_i hi
      cases h
      rw [if_pos hi]
    · rename_i hi
      rw [if_neg hi]
      exact envOf_find h
theorem has_of {sub : Sub} {fuel : Nat} {i : Nat} {P : (List D → M R) → Prop} {ds : List Def} (d : Def) (r : List Def) (h : findDef i ds = some (d, r)) (hp : P (d.fn.run (envOf sub fuel r) sub fuel)) : Has (envOf sub fuel ds) i P :=
  ⟨_, envOf_find h, hp⟩
theorem atI_map {α β : Type} (f : α → β) (xs : List α) (i : Int) (h0 : 0 ≤ i) (h1 : i < xs.length) : atI (xs.map f) i = (xs[i.toNat]?).map f := by
  unfold atI ixN
  rw [List.length_map, if_pos h0, if_pos h1]
  simp
end EV

set_option linter.all false
set_option autoImplicit false
namespace EV
/-! EvD3: the evaluator's rules, as rewriting wants them: loops stay shut. -/
def F.seq (f : F) (k : List S → F) : F := match f with
  | .nx s => k s
  | r => r
@[simp] theorem seq_nx (s : List S) (k : List S → F) : (F.nx s).seq k = k s := by simp only [F.seq]
@[simp] theorem seq_rt (r : R) (k : List S → F) : (F.rt r).seq k = .rt r := rfl
@[simp] theorem seq_bk (s : List S) (k : List S → F) : (F.bk s).seq k = .bk s := rfl
@[simp] theorem seq_ct (s : List S) (k : List S → F) : (F.ct s).seq k = .ct s := rfl
@[simp] theorem seq_ex (c : Nat) (s : List S) (k : List S → F) : (F.ex c s).seq k = .ex c s := rfl
def F.fin (f : F) : M R := match f with
  | .nx _ => .ok (.val .non)
  | .rt (.bor _) => .bad
  | .rt r => .ok r
  | .ex c _ => .ex c
  | _ => .bad
@[simp] theorem fin_nx (s : List S) : (F.nx s).fin = .ok (.val .non) := rfl
@[simp] theorem fin_val (d : D) : (F.rt (.val d)).fin = .ok (.val d) := rfl
@[simp] theorem fin_own (d : List D) : (F.rt (.own d)).fin = .ok (.own d) := rfl
@[simp] theorem fin_ex (c : Nat) (s : List S) : (F.ex c s).fin = .ex c := rfl
def rdS (o : Option S) : M R := match o with
  | some (.val d) => .ok (.val d)
  | some (.own xs) => .ok (.bor xs)
  | _ => .bad
@[simp] theorem rdS_val (d : D) : rdS (some (.val d)) = .ok (.val d) := rfl
@[simp] theorem rdS_own (d : List D) : rdS (some (.own d)) = .ok (.bor d) := rfl
@[simp] theorem retS_val (d : D) : retS (some (.val d)) = .rt (.val d) := rfl
@[simp] theorem retS_own (d : List D) : retS (some (.own d)) = .rt (.own d) := rfl
@[simp] theorem rtR_val (d : D) : rtR (.val d) = .rt (.val d) := rfl
@[simp] theorem rtR_own (d : List D) : rtR (.own d) = .rt (.own d) := rfl
@[simp] theorem ownS_own (d : List D) (k : List D → F) : ownS (some (.own d)) k = k d := rfl
@[simp] theorem intS_int (d : Int) (k : Int → F) : intS (some (.val (.int d))) k = k d := rfl
@[simp] theorem intR_int (d : Int) (k : Int → F) : intR (.val (.int d)) k = k d := rfl
@[simp] theorem asgR_nm (i : Nat) (r : R) (ss : List S) : asgR (.nm i) r ss = putR i r ss := rfl
@[simp] theorem asgR_tup (ts : List Tg) (d : D) (ss : List S) : asgR (.tup ts) (.val d) ss = .ofO (asg (.tup ts) d ss) := rfl
def frzO (o : Option S) (i : Nat) (ss : List S) : F := match o with
  | some (.own xs) => .nx (ss.set i (.val (.lst xs)))
  | some _ => .nx ss
  | none => .bad
@[simp] theorem frzO_own (xs : List D) (i : Nat) (ss : List S) : frzO (some (.own xs)) i ss = .nx (ss.set i (.val (.lst xs))) := rfl
@[simp] theorem frzO_val (d : D) (i : Nat) (ss : List S) : frzO (some (.val d)) i ss = .nx ss := rfl
@[simp] theorem frzO_emp (i : Nat) (ss : List S) : frzO (some .emp) i ss = .nx ss := rfl
def putS (r : R) (b : Bool) (i : Nat) (ss : List S) : F := if b then (match r with
  | .val d => .nx (ss.set i (.val d))
  | .own xs => .nx (ss.set i (.own xs))
  | .bor _ => .bad) else .bad
@[simp] theorem putS_val (d : D) (i : Nat) (ss : List S) : putS (.val d) true i ss = .nx (ss.set i (.val d)) := rfl
@[simp] theorem putS_own (d : List D) (i : Nat) (ss : List S) : putS (.own d) true i ss = .nx (ss.set i (.own d)) := rfl
@[simp] theorem putR_eq (r : R) (i : Nat) (ss : List S) : putR i r ss = putS r (decide (i < ss.length)) i ss := by
  unfold putR putS; by_cases h : i < ss.length <;> simp only [h, decide_true, decide_false, if_true, if_false] <;> cases r <;> rfl
@[simp] theorem asg_nm (i : Nat) (d : D) (ss : List S) : asg (.nm i) d ss = if i < ss.length then some (ss.set i (.val d)) else none := by rw [asg]
@[simp] theorem asg_tup (ts : List Tg) (ds : List D) (ss : List S) : asg (.tup ts) (.tup ds) ss = asgs ts ds ss := by rw [asg]
@[simp] theorem asgs_nil (ss : List S) : asgs [] [] ss = some ss := by rw [asgs]
@[simp] theorem asgs_cons (t : Tg) (ts : List Tg) (d : D) (ds : List D) (ss : List S) : asgs (t :: ts) (d :: ds) ss = (asg t d ss).bind fun ss' => asgs ts ds ss' := by rw [asgs]
@[simp] theorem setAll_nil (ss : List S) : setAll [] [] ss = some ss := rfl
@[simp] theorem setAll_cons (i : Nat) (is : List Nat) (d : D) (ds : List D) (ss : List S) : setAll (i :: is) (d :: ds) ss = if i < ss.length then (setAll is ds ss).map fun s' => s'.set i (.val d) else none := rfl
section
variable {G : Env} {sub : Sub}
@[simp] theorem evE_var (i : Nat) (ss : List S) : evE G sub (.var i) ss = rdS ss[i]? := by rw [evE]; rfl
@[simp] theorem evE_k (d : D) (ss : List S) : evE G sub (.k d) ss = .ok (.val d) := by rw [evE]
@[simp] theorem evE_gl (x : String) (d : D) (ss : List S) : evE G sub (.gl x d) ss = .ok (.val d) := by rw [evE]
@[simp] theorem evE_tup (es : List E) (ss : List S) : evE G sub (.tup es) ss = (evF G sub es ss).bind fun ds => guardM (decide (ds.length ≤ 16777216)) (.ok (.val (.tup ds))) := by rw [evE]
@[simp] theorem evE_lst (es : List E) (ss : List S) : evE G sub (.lst es) ss = (evF G sub es ss).bind fun ds => guardM (decide (ds.length ≤ 16777216)) (.ok (.own ds)) := by rw [evE]
@[simp] theorem evE_op (o : PySem.Operator) (a b : E) (ss : List S) : evE G sub (.op o a b) ss = (evE G sub a ss).bind fun x => (evE G sub b ss).bind fun y => opD o x.view y.view := by rw [evE]
@[simp] theorem evE_neg (a : E) (ss : List S) : evE G sub (.neg a) ss = (evE G sub a ss).bind fun x => (asInt x).bind fun i => .ok (.val (.int (-i))) := by rw [evE]
@[simp] theorem evE_not (a : E) (ss : List S) : evE G sub (.not a) ss = (evE G sub a ss).bind fun x => (asBool x).bind fun b => .ok (.val (.bl (!b))) := by rw [evE]
@[simp] theorem evE_cmp (o : PySem.CmpOp) (a b : E) (ss : List S) : evE G sub (.cmp o a b) ss = (evE G sub a ss).bind fun x => (evE G sub b ss).bind fun y => cmpD o x.view y.view := by rw [evE]
@[simp] theorem evE_chain (o p : PySem.CmpOp) (a b c : E) (ss : List S) : evE G sub (.chain o p a b c) ss = (evE G sub a ss).bind fun x => (evE G sub b ss).bind fun y => (cmpD o x.view y.view).bind fun z => (asBool z).bind fun t =>
      if t then (evE G sub c ss).bind fun w => cmpD p y.view w.view else .ok (.val (.bl false)) := by rw [evE]
@[simp] theorem evE_and (a b : E) (ss : List S) : evE G sub (.and a b) ss = (evE G sub a ss).bind fun x => (asBool x).bind fun t => if t then evE G sub b ss else .ok (.val (.bl false)) := by rw [evE]
@[simp] theorem evE_or (a b : E) (ss : List S) : evE G sub (.or a b) ss = (evE G sub a ss).bind fun x => (asBool x).bind fun t => if t then .ok (.val (.bl true)) else evE G sub b ss := by rw [evE]
@[simp] theorem evE_one (a : E) (ss : List S) : evE G sub (.one a) ss = evE G sub a ss := by rw [evE]
@[simp] theorem evE_ite (c a b : E) (ss : List S) : evE G sub (.ite c a b) ss = (evE G sub c ss).bind fun x => (asBool x).bind fun t => if t then evE G sub a ss else evE G sub b ss := by rw [evE]
@[simp] theorem evE_call (f : Nat) (es : List E) (ss : List S) : evE G sub (.call f es) ss = callG (G f) (evF G sub es ss) := by rw [evE]
@[simp] theorem evE_blt (f : B) (es : List E) (ss : List S) : evE G sub (.blt f es) ss = (evs G sub es ss).bind fun rs => bltD f (rs.map R.view) := by rw [evE]
@[simp] theorem evE_ix (a i : E) (ss : List S) : evE G sub (.ix a i) ss = (evE G sub a ss).bind fun x => (evE G sub i ss).bind fun y => ixD x.view y.view := by rw [evE]
@[simp] theorem evE_sl (a : E) (lo hi : Option E) (ss : List S) : evE G sub (.sl a lo hi) ss = (evE G sub a ss).bind fun x => (evO G sub lo ss).bind fun l => (evO G sub hi ss).bind fun h => slD x.view l h := by rw [evE]
@[simp] theorem evE_isi (a : E) (t : Ty) (ss : List S) : evE G sub (.isi a t) ss = (evE G sub a ss).bind fun x => .ok (.val (.bl (isTy t x.view))) := by rw [evE]
def isxS (sub : Sub) (o : Option S) (cs : List Nat) : M R := match o with
    | some (.exc c) => (match anyO sub c cs with
      | some b => .ok (.val (.bl b))
      | none => .bad)
    | _ => .bad
@[simp] theorem evE_isx (i : Nat) (cs : List Nat) (ss : List S) : evE G sub (.isx i cs) ss = isxS sub ss[i]? cs := by rw [evE]; rfl
@[simp] theorem isxS_exc (c : Nat) (cs : List Nat) : isxS sub (some (.exc c)) cs = match anyO sub c cs with
      | some b => .ok (.val (.bl b))
      | none => .bad := rfl
/-- one step of a comprehension -/
def lcF (G : Env) (sub : Sub) (vs : List Nat) (tg : Tg) (c : Option E) (e : E) (ss : List S) (d : D) : M (Option D) := lcI (asg tg d (wipe ss vs)) fun ss' => (evC G sub c ss').bind fun b => if b then (evE G sub e ss').bind fun r => (r.fix).bind fun y => .ok (some y) else .ok none
def lcE (G : Env) (sub : Sub) (vs : List Nat) (tg : Tg) (c : Option E) (e : E) (ss : List S) (ds : List D) : M (List D) := M.calm (lcL (lcF G sub vs tg c e ss) ds)
@[simp] theorem evE_lc (vs : List Nat) (tg : Tg) (it : I) (c : Option E) (e : E) (ss : List S) : evE G sub (.lc vs tg it c e) ss = (evI G sub it ss).bind fun ds => guardM (decide (ds.length ≤ 16777216)) ((lcE G sub vs tg c e ss ds).bind fun ys => .ok (.own ys)) := by rw [evE]; rfl
@[simp] theorem evC_none (ss : List S) : evC G sub none ss = .ok true := by rw [evC]
@[simp] theorem evC_some (c : E) (ss : List S) : evC G sub (some c) ss = (evE G sub c ss).bind asBool := by rw [evC]
@[simp] theorem evO_none (ss : List S) : evO G sub none ss = .ok none := by rw [evO]
@[simp] theorem evO_some (c : E) (ss : List S) : evO G sub (some c) ss = (evE G sub c ss).bind fun x => (asInt x).bind fun i => .ok (some i) := by rw [evO]
@[simp] theorem evs_nil (ss : List S) : evs G sub [] ss = .ok [] := by rw [evs]
@[simp] theorem evs_cons (e : E) (es : List E) (ss : List S) : evs G sub (e :: es) ss = (evE G sub e ss).bind fun x => (evs G sub es ss).bind fun xs => .ok (x :: xs) := by rw [evs]
@[simp] theorem evF_nil (ss : List S) : evF G sub [] ss = .ok [] := by rw [evF]
@[simp] theorem evF_cons (e : E) (es : List E) (ss : List S) : evF G sub (e :: es) ss = (evE G sub e ss).bind fun r => (r.fix).bind fun x => (evF G sub es ss).bind fun xs => .ok (x :: xs) := by rw [evF]
def itD (d : D) : M (List D) := match d with
    | .lst xs => .ok xs
    | .scr xs => .ok xs
    | .tup xs => .ok xs
    | _ => .bad
@[simp] theorem itD_lst (xs : List D) : itD (.lst xs) = .ok xs := rfl
@[simp] theorem itD_tup (xs : List D) : itD (.tup xs) = .ok xs := rfl
@[simp] theorem itD_scr (xs : List D) : itD (.scr xs) = .ok xs := rfl
@[simp] theorem evI_seq (e : E) (ss : List S) : evI G sub (.seq e) ss = (evE G sub e ss).bind fun x => itD x.view := by rw [evI]; rfl
def rngD (ds : List D) : M (List D) := match ds with
    | [.int j] => guardM (small j) (.ok (rngL 0 j))
    | [.int i, .int j] => guardM (small i && small j) (.ok (rngL i j))
    | _ => .bad
@[simp] theorem rngD_1 (j : Int) : rngD [.int j] = guardM (small j) (.ok (rngL 0 j)) := by unfold rngD; exact Eq.trans rfl rfl
@[simp] theorem rngD_2 (i j : Int) : rngD [.int i, .int j] = guardM (small i && small j) (.ok (rngL i j)) := by unfold rngD; exact Eq.trans rfl rfl
@[simp] theorem evI_rng (es : List E) (ss : List S) : evI G sub (.rng es) ss = (evF G sub es ss).bind rngD := by rw [evI]; rfl
def enumD (d : D) : M (List D) := match d with
    | .lst xs => .ok (enumL 0 xs)
    | _ => .bad
@[simp] theorem enumD_lst (xs : List D) : enumD (.lst xs) = .ok (enumL 0 xs) := rfl
@[simp] theorem evI_enum (e : E) (ss : List S) : evI G sub (.enum e) ss = (evE G sub e ss).bind fun x => enumD x.view := by rw [evI]; rfl
def zipD (a b : D) : M (List D) := match a, b with
    | .lst xs, .lst ys => .ok (zipL xs ys)
    | .tup xs, .tup ys => .ok (zipL xs ys)
    | _, _ => .bad
@[simp] theorem zipD_lst (xs ys : List D) : zipD (.lst xs) (.lst ys) = .ok (zipL xs ys) := rfl
@[simp] theorem zipD_tup (xs ys : List D) : zipD (.tup xs) (.tup ys) = .ok (zipL xs ys) := rfl
@[simp] theorem evI_zip (a b : E) (ss : List S) : evI G sub (.zip a b) ss = (evE G sub a ss).bind fun x => (evE G sub b ss).bind fun y => zipD x.view y.view := by
  rw [evI]; rfl

@[simp] theorem calmE_eq (e : E) (ss : List S) : calmE G sub e ss = match evE G sub e ss with
  | .ok (.bor _) => false
  | _ => true := rfl
@[simp] theorem calmI_seq (e : E) (ss : List S) : calmI G sub (.seq e) ss = calmE G sub e ss := rfl
@[simp] theorem calmI_rng (e : List E) (ss : List S) : calmI G sub (.rng e) ss = true := rfl
@[simp] theorem calmI_enum (e : E) (ss : List S) : calmI G sub (.enum e) ss = calmE G sub e ss := rfl
@[simp] theorem calmI_zip (a b : E) (ss : List S) : calmI G sub (.zip a b) ss = (calmE G sub a ss && calmE G sub b ss) := rfl
variable {fuel : Nat}
def condB (G : Env) (sub : Sub) (c : E) (s : List S) : M Bool := (evE G sub c s).bind asBool
def loopW (G : Env) (sub : Sub) (fuel : Nat) (c : E) (b : List T) (n : Nat) (ss : List S) : F := whileN (condB G sub c) (evTs G sub fuel b) n ss
def loopF (G : Env) (sub : Sub) (fuel : Nat) (tg : Tg) (b : List T) (ds : List D) (ss : List S) : F := forL (asg tg) (evTs G sub fuel b) ds ss
@[simp] theorem evTs_nil (ss : List S) : evTs G sub fuel [] ss = .nx ss := by rw [evTs]
@[simp] theorem evTs_cons (t : T) (ts : List T) (ss : List S) : evTs G sub fuel (t :: ts) ss = (evT G sub fuel t ss).seq (evTs G sub fuel ts) := by rw [evTs]; rfl
@[simp] theorem evT_pass (ss : List S) : evT G sub fuel .pass ss = .nx ss := by rw [evT]
@[simp] theorem evT_frz (i : Nat) (ss : List S) : evT G sub fuel (.frz i) ss = frzO ss[i]? i ss := by rw [evT]; rfl
@[simp] theorem evT_asg (tg : Tg) (e : E) (ss : List S) : evT G sub fuel (.asg tg e) ss = (evE G sub e ss).f ss fun r => asgR tg r ss := by rw [evT]
@[simp] theorem evT_par (is : List Nat) (es : List E) (ss : List S) : evT G sub fuel (.par is es) ss = (evF G sub es ss).f ss fun ds => .ofO (setAll is ds ss) := by rw [evT]
@[simp] theorem evT_setix (i : Nat) (ix e : E) (ss : List S) : evT G sub fuel (.setix i ix e) ss = (evE G sub e ss).f ss fun r => (r.fix).f ss fun d => ownS ss[i]? fun xs => (evE G sub ix ss).f ss fun x => (asInt x).f ss fun j => setN i xs d (ixN xs.length j) ss := by rw [evT]
@[simp] theorem evT_aug (i : Nat) (o : PySem.Operator) (e : E) (ss : List S) : evT G sub fuel (.aug i o e) ss = intS ss[i]? fun x => (evE G sub e ss).f ss fun r => intR r fun y => (opD o (.int x) (.int y)).f ss fun z => putR i z ss := by rw [evT]
@[simp] theorem evT_app (i : Nat) (e : E) (ss : List S) : evT G sub fuel (.app i e) ss = ownS ss[i]? fun xs => (evE G sub e ss).f ss fun r => (r.fix).f ss fun d => if xs.length < 16777216 then .nx (ss.set i (.own (xs ++ [d]))) else .bad := by rw [evT]
@[simp] theorem evT_exp (e : E) (ss : List S) : evT G sub fuel (.exp e) ss = (evE G sub e ss).f ss fun _ => .nx ss := by rw [evT]
@[simp] theorem evT_ret (e : E) (ss : List S) : evT G sub fuel (.ret e) ss = retR G sub e ss := by rw [evT]
@[simp] theorem evT_retN (ss : List S) : evT G sub fuel .retN ss = .rt (.val .non) := by rw [evT]
@[simp] theorem evT_iff (c : E) (a b : List T) (ss : List S) : evT G sub fuel (.iff c a b) ss = ((evE G sub c ss).bind asBool).f ss fun t => if t then evTs G sub fuel a ss else evTs G sub fuel b ss := by rw [evT]
@[simp] theorem evT_whl (c : E) (b : List T) (ss : List S) : evT G sub fuel (.whl c b) ss = loopW G sub fuel c b fuel ss := by rw [evT]; rfl
@[simp] theorem evT_forr (tg : Tg) (it : I) (b : List T) (ss : List S) : evT G sub fuel (.forr tg it b) ss = if calmI G sub it ss then (evI G sub it ss).f ss fun ds => loopF G sub fuel tg b ds ss else .bad := by rw [evT]; rfl
@[simp] theorem evT_brk (ss : List S) : evT G sub fuel .brk ss = .bk ss := by rw [evT]
@[simp] theorem evT_cnt (ss : List S) : evT G sub fuel .cnt ss = .ct ss := by rw [evT]
@[simp] theorem evT_rais (c : Nat) (ss : List S) : evT G sub fuel (.rais c) ss = .ex c ss := by rw [evT]
def F.tr (f : F) (k : Nat → List S → F) : F := match f with
  | .ex c s => k c s
  | r => r
@[simp] theorem tr_nx (s : List S) (k : Nat → List S → F) : (F.nx s).tr k = .nx s := rfl
@[simp] theorem tr_rt (s : R) (k : Nat → List S → F) : (F.rt s).tr k = .rt s := rfl
@[simp] theorem tr_ex (c : Nat) (s : List S) (k : Nat → List S → F) : (F.ex c s).tr k = k c s := by simp only [F.tr]
@[simp] theorem evT_tr (b : List T) (hs : List (List Nat × Option Nat × List T)) (ss : List S) : evT G sub fuel (.tr b hs) ss = (evTs G sub fuel b ss).tr (evHs G sub fuel hs) := by rw [evT]; rfl
def F.han (f : F) (i : Nat) : F := match f with
        | .nx s' => .nx (s'.set i .emp)
        | .bk s' => .bk (s'.set i .emp)
        | .ct s' => .ct (s'.set i .emp)
        | .rt z => .rt z
        | _ => .bad
def F.hao (f : F) : F := match f with
        | .ex _ _ => .bad
        | z => z
@[simp] theorem han_nx (s : List S) (i : Nat) : (F.nx s).han i = .nx (s.set i .emp) := rfl
@[simp] theorem han_rt (s : R) (i : Nat) : (F.rt s).han i = .rt s := rfl
@[simp] theorem hao_nx (s : List S) : (F.nx s).hao = .nx s := rfl
@[simp] theorem hao_rt (s : R) : (F.rt s).hao = .rt s := rfl
@[simp] theorem hao_ct (s : List S) : (F.ct s).hao = .ct s := rfl
@[simp] theorem hao_bk (s : List S) : (F.bk s).hao = .bk s := rfl
theorem evHs_cons (ks : List Nat) (o : Option Nat) (b : List T) (r : List (List Nat × Option Nat × List T)) (c : Nat) (ss : List S) {t : Bool} (h : anyO sub c ks = some t) : evHs G sub fuel ((ks, o, b) :: r) c ss = if t then (match o with
      | none => (evTs G sub fuel b ss).hao
      | some i => if i < ss.length then (evTs G sub fuel b (ss.set i (.exc c))).han i else .bad) else evHs G sub fuel r c ss := by
  rw [evHs.eq_def]
  simp only [h]
  cases t <;> rfl
@[simp] theorem evHs_none (ks : List Nat) (b : List T) (r : List (List Nat × Option Nat × List T)) (c : Nat) (ss : List S) : evHs G sub fuel ((ks, none, b) :: r) c ss = match anyO sub c ks with
    | none => .bad
    | some true => (evTs G sub fuel b ss).hao
    | some false => evHs G sub fuel r c ss := by
  rw [evHs]; rfl
@[simp] theorem evHs_some (ks : List Nat) (i : Nat) (b : List T) (r : List (List Nat × Option Nat × List T)) (c : Nat) (ss : List S) : evHs G sub fuel ((ks, some i, b) :: r) c ss = match anyO sub c ks with
    | none => .bad
    | some true => if i < ss.length then (evTs G sub fuel b (ss.set i (.exc c))).han i else .bad
    | some false => evHs G sub fuel r c ss := by
  rw [evHs]; rfl
@[simp] theorem evHs_nil (c : Nat) (ss : List S) : evHs G sub fuel [] c ss = .ex c ss := by rw [evHs]
theorem run_eq {f : Fn} {ds : List D} (h : ds.length = f.ar) : f.run G sub fuel ds = (evTs G sub fuel f.body (startS f.sl ds)).fin := by
  unfold Fn.run; rw [if_pos h]; rfl
theorem d_run {d : Def} {ds : List D} (h : ds.length = d.ps.length) : d.fn.run G sub fuel ds = (evTs G sub fuel d.body (startS d.N.length ds)).fin := run_eq h
@[simp] theorem retR_ix (a i : E) (ss : List S) : retR G sub (.ix a i) ss = (evE G sub (.ix a i) ss).f ss rtR := rfl
@[simp] theorem retR_var (i : Nat) (ss : List S) : retR G sub (.var i) ss = retS ss[i]? := rfl
@[simp] theorem retR_k (d : D) (ss : List S) : retR G sub (.k d) ss = .rt (.val d) := by show (evE G sub (.k d) ss).f ss rtR = _; simp
@[simp] theorem retR_gl (x : String) (d : D) (ss : List S) : retR G sub (.gl x d) ss = .rt (.val d) := by show (evE G sub (.gl x d) ss).f ss rtR = _; simp
@[simp] theorem retR_tup (a : List E) (ss : List S) : retR G sub (.tup a) ss = (evE G sub (.tup a) ss).f ss rtR := rfl
@[simp] theorem retR_lst (a : List E) (ss : List S) : retR G sub (.lst a) ss = (evE G sub (.lst a) ss).f ss rtR := rfl
@[simp] theorem retR_op (o : PySem.Operator) (a b : E) (ss : List S) : retR G sub (.op o a b) ss = (evE G sub (.op o a b) ss).f ss rtR := rfl
@[simp] theorem retR_neg (a : E) (ss : List S) : retR G sub (.neg a) ss = (evE G sub (.neg a) ss).f ss rtR := rfl
@[simp] theorem retR_not (a : E) (ss : List S) : retR G sub (.not a) ss = (evE G sub (.not a) ss).f ss rtR := rfl
@[simp] theorem retR_cmp (o : PySem.CmpOp) (a b : E) (ss : List S) : retR G sub (.cmp o a b) ss = (evE G sub (.cmp o a b) ss).f ss rtR := rfl
@[simp] theorem retR_chain (o p : PySem.CmpOp) (a b c : E) (ss : List S) : retR G sub (.chain o p a b c) ss = (evE G sub (.chain o p a b c) ss).f ss rtR := rfl
@[simp] theorem retR_and (a b : E) (ss : List S) : retR G sub (.and a b) ss = (evE G sub (.and a b) ss).f ss rtR := rfl
@[simp] theorem retR_or (a b : E) (ss : List S) : retR G sub (.or a b) ss = (evE G sub (.or a b) ss).f ss rtR := rfl
@[simp] theorem retR_ite (a b c : E) (ss : List S) : retR G sub (.ite a b c) ss = (evE G sub (.ite a b c) ss).f ss rtR := rfl
@[simp] theorem retR_call (f : Nat) (a : List E) (ss : List S) : retR G sub (.call f a) ss = (evE G sub (.call f a) ss).f ss rtR := rfl
@[simp] theorem retR_blt (f : B) (a : List E) (ss : List S) : retR G sub (.blt f a) ss = (evE G sub (.blt f a) ss).f ss rtR := rfl
@[simp] theorem retR_sl (a : E) (b c : Option E) (ss : List S) : retR G sub (.sl a b c) ss = (evE G sub (.sl a b c) ss).f ss rtR := rfl
@[simp] theorem retR_isi (a : E) (t : Ty) (ss : List S) : retR G sub (.isi a t) ss = (evE G sub (.isi a t) ss).f ss rtR := rfl
@[simp] theorem retR_isx (i : Nat) (cs : List Nat) (ss : List S) : retR G sub (.isx i cs) ss = (evE G sub (.isx i cs) ss).f ss rtR := rfl
@[simp] theorem retR_lc (vs : List Nat) (tg : Tg) (it : I) (c : Option E) (e : E) (ss : List S) : retR G sub (.lc vs tg it c e) ss = (evE G sub (.lc vs tg it c e) ss).f ss rtR := rfl
end
/-! data -/
@[simp] theorem cmp_eq (d e : D) : cmpD .Eq d e = deepM d e (eqD d e) := by cases d <;> cases e <;> rfl
@[simp] theorem cmp_ne (d e : D) : cmpD .NotEq d e = deepM d e (!eqD d e) := by cases d <;> cases e <;> rfl
@[simp] theorem cmp_lt (i j : Int) : cmpD .Lt (.int i) (.int j) = .ok (.val (.bl (decide (i < j)))) := rfl
@[simp] theorem cmp_le (i j : Int) : cmpD .LtE (.int i) (.int j) = .ok (.val (.bl (decide (i ≤ j)))) := rfl
@[simp] theorem cmp_gt (i j : Int) : cmpD .Gt (.int i) (.int j) = .ok (.val (.bl (decide (j < i)))) := rfl
@[simp] theorem cmp_ge (i j : Int) : cmpD .GtE (.int i) (.int j) = .ok (.val (.bl (decide (j ≤ i)))) := rfl
@[simp] theorem cmp_is (i j : Bool) : cmpD .Is (.bl i) (.bl j) = .ok (.val (.bl (decide (i = j)))) := rfl

@[simp] theorem blt_len_lst (xs : List D) : bltD .len [.lst xs] = .ok (.val (.int xs.length)) := rfl
@[simp] theorem blt_len_tup (xs : List D) : bltD .len [.tup xs] = .ok (.val (.int xs.length)) := rfl
@[simp] theorem blt_len_scr (xs : List D) : bltD .len [.scr xs] = .ok (.val (.int xs.length)) := rfl
@[simp] theorem blt_abs (i : Int) : bltD .abs [.int i] = .ok (.val (.int (i.natAbs : Int))) := by rw [← abs_eq]; rfl
@[simp] theorem blt_int (i : Int) : bltD .int [.int i] = .ok (.val (.int i)) := rfl
@[simp] theorem blt_intb (b : Bool) : bltD .int [.bl b] = .ok (.val (.int (if b then 1 else 0))) := rfl
@[simp] theorem blt_tuple_lst (xs : List D) : bltD .tuple [.lst xs] = .ok (.val (.tup xs)) := rfl
@[simp] theorem blt_tuple_tup (xs : List D) : bltD .tuple [.tup xs] = .ok (.val (.tup xs)) := rfl
@[simp] theorem blt_list_lst (xs : List D) : bltD .list [.lst xs] = .ok (.own xs) := rfl
@[simp] theorem blt_list_tup (xs : List D) : bltD .list [.tup xs] = .ok (.own xs) := rfl
@[simp] theorem ix_lst (xs : List D) (i : Int) : ixD (.lst xs) (.int i) = (M.ofO (atI xs i)).bind fun d => .ok (.val d) := rfl
@[simp] theorem ix_tup (xs : List D) (i : Int) : ixD (.tup xs) (.int i) = (M.ofO (atI xs i)).bind fun d => .ok (.val d) := rfl
@[simp] theorem ix_scr (xs : List D) (i : Int) : ixD (.scr xs) (.int i) = (M.ofO (atI xs i)).bind fun d => .ok (.val d) := rfl
@[simp] theorem sl_lst (xs : List D) (lo hi : Option Int) : slD (.lst xs) lo hi = .ok (.own (cut xs lo hi)) := rfl
@[simp] theorem sl_scr (xs : List D) (lo hi : Option Int) : slD (.scr xs) lo hi = .ok (.own (cut xs lo hi)) := rfl
@[simp] theorem sl_tup (xs : List D) (lo hi : Option Int) : slD (.tup xs) lo hi = .ok (.val (.tup (cut xs lo hi))) := rfl
@[simp] theorem isTy_int (i : Int) (t : Ty) : isTy t (.int i) = (t == .int) := by cases t <;> rfl
@[simp] theorem isTy_bl (i : Bool) (t : Ty) : isTy t (.bl i) = (t == .bool || t == .int) := by cases t <;> rfl
@[simp] theorem isTy_tup (xs : List D) (t : Ty) : isTy t (.tup xs) = (t == .tuple) := by cases t <;> rfl
@[simp] theorem isTy_lst (xs : List D) (t : Ty) : isTy t (.lst xs) = (t == .list) := by cases t <;> rfl
@[simp] theorem isTy_str (s : PySem.Str) (t : Ty) : isTy t (.str s) = (t == .str) := by cases t <;> rfl
@[simp] theorem isTy_non (t : Ty) : isTy t .non = false := by cases t <;> rfl
@[simp] theorem atI_0 (x : D) (r : List D) : atI (x :: r) 0 = some x := by unfold atI ixN; simp
@[simp] theorem atI_1 (x y : D) (r : List D) : atI (x :: y :: r) 1 = some y := by unfold atI ixN; simp only [List.length_cons]; rw [if_pos (by omega), if_pos (by omega)]; rfl
end EV

set_option linter.all false
set_option autoImplicit false
namespace EV
/-! EvQ1: pairs in lowest terms are the rational numbers. -/
def rt (n d : Int) : D := .tup [.int n, .int d]
def rn (n d : Int) : Int := if d < 0 then -n / Int.gcd n d else n / Int.gcd n d
def rd (n d : Int) : Int := if d < 0 then -d / Int.gcd n d else d / Int.gcd n d
/-- a rational number, as the program has it -/
def qd (q : Rat) : D := .tup [.int q.num, .int q.den]
/-- its size -/
def QS (q : Rat) (k : Nat) : Prop := Sz q.num k ∧ Sz q.den k
theorem rn_eq (n d : Int) (hd : d ≠ 0) : ∃ a b : Int, n = Int.gcd n d * a ∧ d = Int.gcd n d * b ∧ b ≠ 0 ∧ Int.gcd a b = 1 ∧ rn n d = (if d < 0 then -a else a) ∧ rd n d = (if d < 0 then -b else b) := by
  have hp : 0 < Int.gcd n d := Int.gcd_pos_iff.mpr (.inr hd)
  have hp' : (Int.gcd n d : Int) ≠ 0 := by omega
  have h1 := Int.gcd_dvd_left n d
  have h2 := Int.gcd_dvd_right n d
  have h3 := Int.gcd_ediv_gcd_ediv_gcd hp
  refine ⟨n / Int.gcd n d, d / Int.gcd n d, (Int.mul_ediv_cancel' h1).symm, (Int.mul_ediv_cancel' h2).symm, ?_, h3, ?_, ?_⟩
  · intro h
    have := (Int.mul_ediv_cancel' h2)
    rw [h, Int.mul_zero] at this
    exact hd this.symm
  · unfold rn; split
    · rw [← Int.neg_ediv_of_dvd h1]
    · rfl
  · unfold rd; split
    · rw [← Int.neg_ediv_of_dvd h2]
    · rfl
theorem rn_mul (n d : Int) (hd : d ≠ 0) : rn n d * d = n * rd n d := by
  obtain ⟨a, b, h1, h2, h3, h4, h5, h6⟩ := rn_eq n d hd
  rw [h5, h6]
  generalize hg : (Int.gcd n d : Int) = g at *
  split <;> grind
theorem rd_pos (n d : Int) (hd : d ≠ 0) : 1 ≤ rd n d := by
  obtain ⟨a, b, h1, h2, h3, h4, h5, h6⟩ := rn_eq n d hd
  have hp : (0 : Int) < (Int.gcd n d : Int) := by have := Int.gcd_pos_iff.mpr (.inr hd : n ≠ 0 ∨ d ≠ 0); omega
  rw [h6]
  generalize (Int.gcd n d : Int) = g at *
  split
  · rename_i h
    have : b < 0 := by
      refine Int.not_le.mp fun hb => ?_
      have := Int.mul_nonneg (Int.le_of_lt hp) hb
      omega
    omega
  · rename_i h
    have : 0 < b := by
      refine Int.not_le.mp fun hb => ?_
      have := Int.mul_nonneg (Int.le_of_lt hp) (by omega : 0 ≤ -b)
      rw [Int.mul_neg] at this
      have h7 : g * b ≠ 0 := Int.mul_ne_zero (by omega) h3
      omega
    omega
theorem rn_gcd (n d : Int) (hd : d ≠ 0) : Int.gcd (rn n d) (rd n d) = 1 := by
  obtain ⟨a, b, h1, h2, h3, h4, h5, h6⟩ := rn_eq n d hd
  rw [h5, h6]
  split <;> simp [Int.gcd_neg, Int.neg_gcd, h4]
theorem rn_sz {n d : Int} {k : Nat} (h : Sz n k) : Sz (rn n d) k := by
  unfold rn; split
  · exact h.neg.ediv
  · exact h.ediv
theorem rd_sz {n d : Int} {k : Nat} (h : Sz d k) : Sz (rd n d) k := by
  unfold rd; split
  · exact h.neg.ediv
  · exact h.ediv
/-- a pair in lowest terms is the number -/
theorem q_of {p q : Int} (h1 : 1 ≤ q) (h2 : Int.gcd p q = 1) : (Rat.divInt p q).num = p ∧ ((Rat.divInt p q).den : Int) = q := by
  rw [Rat.num_divInt, Rat.den_divInt, if_neg (by omega), Int.gcd_comm, h2]
  refine ⟨?_, ?_⟩
  · rw [Int.sign_eq_one_of_pos (by omega)]; simp
  · simp; omega
theorem divInt_eq {n d p q : Int} (hd : d ≠ 0) (hq : q ≠ 0) (h : p * d = n * q) : Rat.divInt n d = Rat.divInt p q := by
  rw [Rat.divInt_eq_divInt_iff hd hq]; exact h.symm
theorem rt_q (n d : Int) (hd : d ≠ 0) : rt (rn n d) (rd n d) = qd (Rat.divInt n d) := by
  have h1 := rd_pos n d hd
  rw [divInt_eq hd (by omega) (rn_mul n d hd)]
  obtain ⟨h2, h3⟩ := q_of h1 (rn_gcd n d hd)
  unfold rt qd
  rw [h2, h3]
theorem q_num (n d : Int) (hd : d ≠ 0) : (Rat.divInt n d).num = rn n d ∧ ((Rat.divInt n d).den : Int) = rd n d := by
  have h1 := rd_pos n d hd
  rw [divInt_eq hd (by omega) (rn_mul n d hd)]
  exact q_of h1 (rn_gcd n d hd)
theorem den_pos (q : Rat) : (0 : Int) < q.den := by have := q.den_pos; omega
theorem den_ne (q : Rat) : (q.den : Int) ≠ 0 := by have := q.den_pos; omega
namespace QS
variable {a b : Rat} {k m : Nat}
theorem mono (h : QS a k) (hk : k ≤ m) : QS a m := ⟨h.1.mono hk, h.2.mono hk⟩
theorem divInt {n d : Int} (hd : d ≠ 0) (h : Sz n k) (h' : Sz d k) : QS (Rat.divInt n d) k := by
  obtain ⟨h1, h2⟩ := q_num n d hd
  unfold QS
  rw [h1, h2]
  exact ⟨rn_sz h, rd_sz h'⟩
theorem neg (h : QS a k) : QS (-a) k := by
  unfold QS; rw [Rat.neg_num, Rat.neg_den]; exact ⟨h.1.neg, h.2⟩
end QS
theorem q_add (a b : Rat) : Rat.divInt (a.num * b.den + b.num * a.den) (a.den * b.den) = a + b := by
  conv => rhs; rw [← Rat.num_divInt_den a, ← Rat.num_divInt_den b]
  rw [Rat.divInt_add_divInt _ _ (den_ne a) (den_ne b)]
theorem q_mul (a b : Rat) : Rat.divInt (a.num * b.num) (a.den * b.den) = a * b := by
  conv => rhs; rw [← Rat.num_divInt_den a, ← Rat.num_divInt_den b]
  rw [Rat.divInt_mul_divInt _ _]
theorem q_div (a b : Rat) : Rat.divInt (a.num * b.den) (a.den * b.num) = a / b := by
  rw [Rat.div_def]
  conv => rhs; rw [← Rat.num_divInt_den a, ← Rat.num_divInt_den b]
  rw [Rat.inv_divInt, Rat.divInt_mul_divInt]
namespace QS
variable {a b : Rat} {k m : Nat}
theorem add (h : QS a k) (h' : QS b m) : QS (a + b) (k + m + 1) := by
  rw [← q_add]
  refine divInt (Int.mul_ne_zero (den_ne a) (den_ne b)) ((Sz.add' (Sz.mul h.1 h'.2) (Sz.mul h'.1 h.2)).mono (by omega)) ((Sz.mul h.2 h'.2).mono (by omega))
theorem mul (h : QS a k) (h' : QS b m) : QS (a * b) (k + m) := by
  rw [← q_mul]
  exact divInt (Int.mul_ne_zero (den_ne a) (den_ne b)) (Sz.mul h.1 h'.1) (Sz.mul h.2 h'.2)
theorem div (h : QS a k) (h' : QS b m) (hb : b ≠ 0) : QS (a / b) (k + m) := by
  rw [← q_div]
  exact divInt (Int.mul_ne_zero (den_ne a) (by rw [Ne, Rat.num_eq_zero]; exact hb)) (Sz.mul h.1 h'.2) (Sz.mul h.2 h'.1)
theorem sub (h : QS a k) (h' : QS b m) : QS (a - b) (k + m + 1) := by rw [Rat.sub_eq_add_neg]; exact add h h'.neg
theorem zero : QS 0 1 := ⟨by unfold Sz; decide, by unfold Sz; decide⟩
theorem one : QS 1 1 := ⟨by unfold Sz; decide, by unfold Sz; decide⟩
theorem ofInt {i : Int} (h : Sz i k) (hk : 1 ≤ k) : QS (i : Rat) k := by
  unfold QS; rw [Rat.num_intCast, Rat.den_intCast]; exact ⟨h, Sz.mono (k := 1) (by unfold Sz; decide) hk⟩
end QS
theorem qd_int (i : Int) : qd (i : Rat) = .tup [.int i, .int 1] := by unfold qd; rw [Rat.num_intCast, Rat.den_intCast]; rfl
theorem qd_zero : qd 0 = .tup [.int 0, .int 1] := rfl
theorem qd_one : qd 1 = .tup [.int 1, .int 1] := rfl
theorem qd_wf (q : Rat) (n : Nat) : wf (n + 1) (qd q) = true := by unfold qd; simp [wf]
theorem qd_eq (a b : Rat) : eqD (qd a) (qd b) = decide (a = b) := by
  unfold qd
  simp only [eqD, eqDs, Bool.and_true]
  rw [Bool.beq_eq_decide_eq, Bool.beq_eq_decide_eq, ← Bool.decide_and, decide_eq_decide]
  constructor
  · rintro ⟨h1, h2⟩; exact Rat.ext h1 (by omega)
  · rintro rfl; exact ⟨rfl, rfl⟩
theorem q_sub_num (a b : Rat) : (a.num * b.den - b.num * a.den < 0 ↔ a < b) ∧ (a.num * b.den - b.num * a.den = 0 ↔ a = b) := by
  refine ⟨?_, ?_⟩
  · rw [Rat.lt_iff]; omega
  · constructor
    · intro h
      refine Rat.le_antisymm ?_ ?_ <;> rw [Rat.le_iff] <;> omega
    · rintro rfl; omega
end EV

set_option linter.all false
set_option autoImplicit false
namespace EV
def b_common : List T := [
  .asg (.nm 0) (.blt .abs [.var 0]),
  .asg (.nm 1) (.blt .abs [.var 1]),
  .whl (.cmp .NotEq (.var 1) (.k (.int 0))) [.frz 1, .par [0, 1] [.var 1, .op .Mod (.var 0) (.var 1)]],
  .ret (.var 0)]
def d_common : Def := ⟨1, "common", ["first", "second"], ["first", "second"], b_common⟩
def b_ratio : List T := [
  .iff (.cmp .Eq (.var 1) (.k (.int 0))) [.rais 1] [],
  .iff (.cmp .Lt (.var 1) (.k (.int 0))) [.asg (.nm 0) (.neg (.var 0)), .asg (.nm 1) (.neg (.var 1))] [],
  .asg (.nm 2) (.call 1 [.var 0, .var 1]),
  .ret (.tup [.op .FloorDiv (.var 0) (.var 2), .op .FloorDiv (.var 1) (.var 2)])]
def d_ratio : Def := ⟨4, "ratio", ["n", "d"], ["n", "d", "divisor"], b_ratio⟩
def b_plus : List T := [
  .ret (.call 4 [.op .Add (.op .Mult (.ix (.var 0) (.k (.int 0))) (.ix (.var 1) (.k (.int 1)))) (.op .Mult (.ix (.var 1) (.k (.int 0))) (.ix (.var 0) (.k (.int 1)))), .op .Mult (.ix (.var 0) (.k (.int 1))) (.ix (.var 1) (.k (.int 1)))])]
def d_plus : Def := ⟨11, "plus", ["first", "second"], ["first", "second"], b_plus⟩
def b_negated : List T := [
  .ret (.tup [.neg (.ix (.var 0) (.k (.int 0))), .ix (.var 0) (.k (.int 1))])]
def d_negated : Def := ⟨12, "negated", ["first"], ["first"], b_negated⟩
def b_minus : List T := [
  .ret (.call 11 [.var 0, .call 12 [.var 1]])]
def d_minus : Def := ⟨15, "minus", ["first", "second"], ["first", "second"], b_minus⟩
def b_times : List T := [
  .ret (.call 4 [.op .Mult (.ix (.var 0) (.k (.int 0))) (.ix (.var 1) (.k (.int 0))), .op .Mult (.ix (.var 0) (.k (.int 1))) (.ix (.var 1) (.k (.int 1)))])]
def d_times : Def := ⟨16, "times", ["first", "second"], ["first", "second"], b_times⟩
def b_over : List T := [
  .ret (.call 4 [.op .Mult (.ix (.var 0) (.k (.int 0))) (.ix (.var 1) (.k (.int 1))), .op .Mult (.ix (.var 0) (.k (.int 1))) (.ix (.var 1) (.k (.int 0)))])]
def d_over : Def := ⟨20, "over", ["first", "second"], ["first", "second"], b_over⟩
def b_sign_of : List T := [
  .iff (.cmp .Eq (.ix (.var 0) (.k (.int 0))) (.k (.int 0))) [.ret (.k (.int 0))] [],
  .ret (.ite (.cmp .Gt (.ix (.var 0) (.k (.int 0))) (.k (.int 0))) (.k (.int 1)) (.neg (.k (.int 1))))]
def d_sign_of : Def := ⟨13, "sign_of", ["first"], ["first"], b_sign_of⟩
def b_compare : List T := [
  .ret (.call 13 [.tup [.op .Sub (.op .Mult (.ix (.var 0) (.k (.int 0))) (.ix (.var 1) (.k (.int 1)))) (.op .Mult (.ix (.var 1) (.k (.int 0))) (.ix (.var 0) (.k (.int 1)))), .k (.int 1)]])]
def d_compare : Def := ⟨17, "compare", ["first", "second"], ["first", "second"], b_compare⟩
def b_floor_of : List T := [
  .ret (.op .FloorDiv (.ix (.var 0) (.k (.int 0))) (.ix (.var 0) (.k (.int 1))))]
def d_floor_of : Def := ⟨19, "floor_of", ["first"], ["first"], b_floor_of⟩
def b__law_stream : List T := [
  .asg (.nm 1) (.lst []),
  .forr (.nm 2) (.seq (.sl (.var 0) none (some (.k (.int 63))))) [.asg (.nm 3) (.blt .int [.var 2]), .iff (.cmp .GtE (.var 3) (.op .Pow (.k (.int 10)) (.k (.int 18)))) [.forr (.nm 4) (.rng [.k (.int 60)]) [.app 1 (.op .Mod (.blt .int [.var 3]) (.k (.int 1009))), .asg (.nm 3) (.op .FloorDiv (.var 3) (.k (.int 1009))), .iff (.cmp .Eq (.var 3) (.k (.int 0))) [.brk] []]] [.asg (.nm 5) (.op .Mod (.blt .int [.var 3]) (.k (.int 2147483647))), .forr (.nm 4) (.rng [.k (.int 10)]) [.asg (.nm 5) (.op .Mod (.blt .int [.op .Add (.op .Add (.op .Mult (.var 5) (.k (.int 48271))) (.op .Mult (.k (.int 7)) (.var 4))) (.k (.int 11))]) (.k (.int 2147483647))), .app 1 (.op .Mod (.op .Mod (.blt .int [.op .Add (.op .Mult (.var 5) (.k (.int 69621))) (.var 4)]) (.k (.int 2147483629))) (.k (.int 1009)))]]],
  .iff (.cmp .Eq (.blt .len [.var 1]) (.k (.int 0))) [.app 1 (.k (.int 0))] [],
  .ret (.var 1)]
def d__law_stream : Def := ⟨5, "_law_stream", ["_law_script"], ["_law_script", "_law_numbers", "_law_cell", "_law_rest", "_law_k", "_law_mixed"], b__law_stream⟩
def b__law_pick : List T := [
  .ret (.op .Mod (.blt .int [.ix (.var 0) (.op .Mod (.var 1) (.blt .len [.var 0]))]) (.var 2))]
def d__law_pick : Def := ⟨2, "_law_pick", ["_law_numbers", "_law_at", "_law_many"], ["_law_numbers", "_law_at", "_law_many"], b__law_pick⟩
def b__law_int : List T := [
  .asg (.nm 2) (.call 2 [.var 0, .var 1, .k (.int 6)]),
  .asg (.nm 3) (.ix (.lst [.k (.int 1), .neg (.k (.int 1))]) (.call 2 [.var 0, .op .Add (.var 1) (.k (.int 1)), .k (.int 2)])),
  .iff (.cmp .Eq (.var 2) (.k (.int 0))) [.ret (.ix (.lst [.k (.int 0), .k (.int 1), .neg (.k (.int 1)), .k (.int 2)]) (.call 2 [.var 0, .op .Add (.var 1) (.k (.int 2)), .k (.int 4)]))] [],
  .iff (.cmp .Lt (.var 2) (.k (.int 4))) [.ret (.op .Mult (.var 3) (.call 2 [.var 0, .op .Add (.var 1) (.k (.int 2)), .ix (.lst [.k (.int 12), .k (.int 60), .k (.int 1009)]) (.op .Sub (.var 2) (.k (.int 1)))]))] [],
  .asg (.nm 4) (.k (.int 0)),
  .forr (.nm 5) (.rng [.op .Add (.k (.int 1)) (.call 2 [.var 0, .op .Add (.var 1) (.k (.int 2)), .k (.int 12)])]) [.asg (.nm 4) (.op .Add (.op .Mult (.var 4) (.k (.int 1009))) (.call 2 [.var 0, .op .Add (.op .Add (.var 1) (.k (.int 3))) (.var 5), .k (.int 1009)]))],
  .ret (.op .Mult (.var 3) (.var 4))]
def d__law_int : Def := ⟨6, "_law_int", ["_law_numbers", "_law_at"], ["_law_numbers", "_law_at", "_law_way", "_law_sign", "_law_value", "_law_k"], b__law_int⟩
def b__law_gcd : List T := [
  .asg (.nm 0) (.blt .abs [.var 0]),
  .asg (.nm 1) (.blt .abs [.var 1]),
  .forr (.nm 2) (.rng [.k (.int 40000)]) [.iff (.cmp .Eq (.var 1) (.k (.int 0))) [.brk] [], .frz 1, .par [0, 1] [.var 1, .op .Mod (.blt .int [.var 0]) (.var 1)]],
  .ret (.var 0)]
def d__law_gcd : Def := ⟨3, "_law_gcd", ["_law_first", "_law_second"], ["_law_first", "_law_second", "_law_k"], b__law_gcd⟩
def b__law_ratio : List T := [
  .iff (.cmp .Lt (.var 1) (.k (.int 0))) [.asg (.nm 0) (.op .Sub (.k (.int 0)) (.var 0)), .asg (.nm 1) (.op .Sub (.k (.int 0)) (.var 1))] [],
  .frz 0,
  .frz 1,
  .asg (.nm 2) (.call 3 [.var 0, .var 1]),
  .ret (.tup [.op .FloorDiv (.var 0) (.var 2), .op .FloorDiv (.var 1) (.var 2)])]
def d__law_ratio : Def := ⟨14, "_law_ratio", ["_law_n", "_law_d"], ["_law_n", "_law_d", "_law_divisor"], b__law_ratio⟩
def b__law_plus : List T := [
  .ret (.call 14 [.op .Add (.op .Mult (.ix (.var 0) (.k (.int 0))) (.ix (.var 1) (.k (.int 1)))) (.op .Mult (.ix (.var 1) (.k (.int 0))) (.ix (.var 0) (.k (.int 1)))), .op .Mult (.ix (.var 0) (.k (.int 1))) (.ix (.var 1) (.k (.int 1)))])]
def d__law_plus : Def := ⟨21, "_law_plus", ["_law_first", "_law_second"], ["_law_first", "_law_second"], b__law_plus⟩
def b__law_times : List T := [
  .ret (.call 14 [.op .Mult (.ix (.var 0) (.k (.int 0))) (.ix (.var 1) (.k (.int 0))), .op .Mult (.ix (.var 0) (.k (.int 1))) (.ix (.var 1) (.k (.int 1)))])]
def d__law_times : Def := ⟨31, "_law_times", ["_law_first", "_law_second"], ["_law_first", "_law_second"], b__law_times⟩
def b_is_ratio : List T := [
  .ret (.and (.cmp .Eq (.blt .len [.var 0]) (.k (.int 2))) (.and (.cmp .GtE (.ix (.var 0) (.k (.int 1))) (.k (.int 1))) (.one (.cmp .Eq (.call 1 [.ix (.var 0) (.k (.int 0)), .ix (.var 0) (.k (.int 1))]) (.k (.int 1))))))]
def d_is_ratio : Def := ⟨8, "is_ratio", ["pair"], ["pair"], b_is_ratio⟩
def b_of_int : List T := [
  .ret (.tup [.var 0, .k (.int 1)])]
def d_of_int : Def := ⟨10, "of_int", ["n"], ["n"], b_of_int⟩
def b_check_widths : List T := [
  .iff (.cmp .NotEq (.blt .len [.var 0]) (.blt .len [.var 1])) [.rais 1] []]
def d_check_widths : Def := ⟨30, "check_widths", ["first", "second"], ["first", "second"], b_check_widths⟩
def b_add_rows : List T := [
  .exp (.call 30 [.var 0, .var 1]),
  .ret (.blt .tuple [.lc [2, 3] (.tup [.nm 2, .nm 3]) (.zip (.var 0) (.var 1)) none (.call 11 [.var 2, .var 3])])]
def d_add_rows : Def := ⟨35, "add_rows", ["first", "second"], ["first", "second", "one", "other"], b_add_rows⟩
def b_scale_row : List T := [
  .ret (.blt .tuple [.lc [2] (.nm 2) (.seq (.var 1)) none (.call 16 [.var 0, .var 2])])]
def d_scale_row : Def := ⟨40, "scale_row", ["factor", "row"], ["factor", "row", "one"], b_scale_row⟩
def b_product : List T := [
  .exp (.call 30 [.var 0, .var 1]),
  .asg (.nm 2) (.call 10 [.k (.int 0)]),
  .forr (.tup [.nm 3, .nm 4]) (.zip (.var 0) (.var 1)) [.frz 2, .asg (.nm 2) (.call 11 [.var 2, .call 16 [.var 3, .var 4]])],
  .ret (.var 2)]
def d_product : Def := ⟨36, "product", ["first", "second"], ["first", "second", "total", "one", "other"], b_product⟩
def b_value_at : List T := [
  .ret (.call 11 [.call 36 [.ix (.var 0) (.k (.int 0)), .var 1], .ix (.var 0) (.k (.int 1))])]
def d_value_at : Def := ⟨43, "value_at", ["form", "row"], ["form", "row"], b_value_at⟩
def b_zero_row : List T := [
  .iff (.or (.cmp .Lt (.var 0) (.k (.int 1))) (.one (.cmp .Gt (.var 0) (.gl "MAX_WIDTH" (.int 24))))) [.rais 1] [],
  .ret (.blt .tuple [.lc [1] (.nm 1) (.rng [.var 0]) none (.call 10 [.k (.int 0)])])]
def d_zero_row : Def := ⟨29, "zero_row", ["width"], ["width", "_"], b_zero_row⟩
def b_unit_row : List T := [
  .asg (.nm 2) (.call 29 [.var 0]),
  .iff (.or (.cmp .Lt (.var 1) (.k (.int 0))) (.one (.cmp .GtE (.var 1) (.var 0)))) [.rais 1] [],
  .ret (.op .Add (.op .Add (.sl (.var 2) none (some (.var 1))) (.tup [.call 10 [.k (.int 1)]])) (.sl (.var 2) (some (.op .Add (.var 1) (.k (.int 1)))) none))]
def d_unit_row : Def := ⟨33, "unit_row", ["width", "index"], ["width", "index", "row"], b_unit_row⟩
end EV

set_option linter.all false
set_option autoImplicit false
namespace EV
/-- common -/
def PGcd (m : Nat) (g : List D → M R) : Prop := ∀ a b : Int, Sz b m → g [.int a, .int b] = .ok (.val (.int (Int.gcd a b)))
theorem ok_common {G : Env} {sub : Sub} {fuel m : Nat} (hf : 2 * m + 1 ≤ fuel) : PGcd m (d_common.fn.run G sub fuel) := by
  intro a b hb
  have e : loopW G sub fuel (.cmp .NotEq (.var 1) (.k (.int 0))) [.frz 1, .par [0, 1] [.var 1, .op .Mod (.var 0) (.var 1)]] fuel [.val (.int (a.natAbs : Int)), .val (.int (b.natAbs : Int))] = _ := euclid_while
    (by intro x y
        simp [condB])
    (by intro x y hx hy
        simp [opD_mod hy])
    m fuel a.natAbs b.natAbs hb hf
  rw [d_run rfl]
  simp [d_common, b_common, startS, e]
  rfl
/-- ratio -/
def PRatio (m : Nat) (g : List D → M R) : Prop := (∀ n, g [.int n, .int 0] = .ex 1) ∧ ∀ n d : Int, d ≠ 0 → Sz d m → g [.int n, .int d] = .ok (.val (qd (Rat.divInt n d)))
theorem ok_ratio {G : Env} {sub : Sub} {fuel m : Nat} (hm : m < 9000) (hg : Has G 1 (PGcd m)) : PRatio m (d_ratio.fn.run G sub fuel) := by
  obtain ⟨g, h1, h2⟩ := hg
  constructor
  · intro n
    rw [d_run rfl]
    simp [d_ratio, b_ratio, startS]
  · intro n d hd hs
    rw [d_run rfl, ← rt_q n d hd]
    have hp : (0 : Int) < Int.gcd n d := by have := Int.gcd_pos_iff.mpr (.inr hd : n ≠ 0 ∨ d ≠ 0); omega
    have hz : Sz (Int.gcd n d) m := Sz.gcd_right hs hd
    by_cases h0 : d < 0
    · simp [d_ratio, b_ratio, startS, hd, h0, h1, h2 (-n) (-d) hs.neg, opD_divS hp hz hm, rn, rd, rt]
    · simp [d_ratio, b_ratio, startS, hd, h0, h1, h2 n d hs, opD_divS hp hz hm, rn, rd, rt]
/-- is_ratio, of a pair -/
def PIsR (m : Nat) (g : List D → M R) : Prop := ∀ n d : Int, Sz d m → g [.tup [.int n, .int d]] = .ok (.val (.bl (decide (1 ≤ d) && decide (Int.gcd n d = 1))))
theorem ok_isr {G : Env} {sub : Sub} {fuel m : Nat} (hg : Has G 1 (PGcd m)) : PIsR m (d_is_ratio.fn.run G sub fuel) := by
  obtain ⟨g, h1, h2⟩ := hg
  intro n d hs
  rw [d_run rfl]
  by_cases h0 : 1 ≤ d
  · simp [d_is_ratio, b_is_ratio, startS, h0, h1, h2 n d hs]; omega
  · simp [d_is_ratio, b_is_ratio, startS, h0]
def POfI (g : List D → M R) : Prop := ∀ n : Int, g [.int n] = .ok (.val (.tup [.int n, .int 1]))
theorem ok_of_int {G : Env} {sub : Sub} {fuel : Nat} : POfI (d_of_int.fn.run G sub fuel) := by
  intro n
  rw [d_run rfl]
  simp [d_of_int, b_of_int, startS]
/-- the numbers of a law -/
def Nums (zs : List Int) : Prop := 0 < zs.length ∧ zs.length ≤ 4000 ∧ ∀ z ∈ zs, 0 ≤ z ∧ z < 1009
def PStream (g : List D → M R) : Prop := ∀ ns : List Int, ns.length ≤ 63 → ∃ zs, Nums zs ∧ g [.scr (ns.map .int)] = .ok (.own (zs.map .int))
theorem cut63 (ns : List Int) (h : ns.length ≤ 63) : cut (ns.map D.int) none (some 63) = ns.map .int := by
  unfold cut
  rw [show sIx (ns.map D.int).length 0 none = 0 from rfl, List.drop_zero, Nat.sub_zero]
  refine List.take_of_length_le ?_
  simp [sIx]
  omega
theorem ok_stream {G : Env} {sub : Sub} {fuel : Nat} : PStream (d__law_stream.fn.run G sub fuel) := by
  intro ns hl
  have main : ∃ zs : List Int, zs.length ≤ 3800 ∧ (∀ z ∈ zs, 0 ≤ z ∧ z < 1009) ∧ ∃ s2 s3 s4 s5, loopF G sub fuel (.nm 2) [.asg (.nm 3) (.blt .int [.var 2]), .iff (.cmp .GtE (.var 3) (.op .Pow (.k (.int 10)) (.k (.int 18)))) [.forr (.nm 4) (.rng [.k (.int 60)]) [.app 1 (.op .Mod (.blt .int [.var 3]) (.k (.int 1009))), .asg (.nm 3) (.op .FloorDiv (.var 3) (.k (.int 1009))), .iff (.cmp .Eq (.var 3) (.k (.int 0))) [.brk] []]] [.asg (.nm 5) (.op .Mod (.blt .int [.var 3]) (.k (.int 2147483647))), .forr (.nm 4) (.rng [.k (.int 10)]) [.asg (.nm 5) (.op .Mod (.blt .int [.op .Add (.op .Add (.op .Mult (.var 5) (.k (.int 48271))) (.op .Mult (.k (.int 7)) (.var 4))) (.k (.int 11))]) (.k (.int 2147483647))), .app 1 (.op .Mod (.op .Mod (.blt .int [.op .Add (.op .Mult (.var 5) (.k (.int 69621))) (.var 4)]) (.k (.int 2147483629))) (.k (.int 1009)))]]] (ns.map .int) [.val (.scr (ns.map .int)), .own [], .emp, .emp, .emp, .emp] = .nx [.val (.scr (ns.map .int)), .own (zs.map .int), s2, s3, s4, s5] := by
    obtain ⟨s', h1, zs, h2, h3, s2, s3, s4, s5, rfl⟩ := forL_inv (g := asg (.nm 2)) (b := evTs G sub fuel [.asg (.nm 3) (.blt .int [.var 2]), .iff (.cmp .GtE (.var 3) (.op .Pow (.k (.int 10)) (.k (.int 18)))) [.forr (.nm 4) (.rng [.k (.int 60)]) [.app 1 (.op .Mod (.blt .int [.var 3]) (.k (.int 1009))), .asg (.nm 3) (.op .FloorDiv (.var 3) (.k (.int 1009))), .iff (.cmp .Eq (.var 3) (.k (.int 0))) [.brk] []]] [.asg (.nm 5) (.op .Mod (.blt .int [.var 3]) (.k (.int 2147483647))), .forr (.nm 4) (.rng [.k (.int 10)]) [.asg (.nm 5) (.op .Mod (.blt .int [.op .Add (.op .Add (.op .Mult (.var 5) (.k (.int 48271))) (.op .Mult (.k (.int 7)) (.var 4))) (.k (.int 11))]) (.k (.int 2147483647))), .app 1 (.op .Mod (.op .Mod (.blt .int [.op .Add (.op .Mult (.var 5) (.k (.int 69621))) (.var 4)]) (.k (.int 2147483629))) (.k (.int 1009)))]]])
      (fun i s => ∃ zs : List Int, zs.length ≤ 60 * i ∧ (∀ z ∈ zs, 0 ≤ z ∧ z < 1009) ∧ ∃ s2 s3 s4 s5, s = [.val (.scr (ns.map .int)), .own (zs.map .int), s2, s3, s4, s5])
      (ns.map .int) [.val (.scr (ns.map .int)), .own [], .emp, .emp, .emp, .emp] ⟨[], by simp, by simp, _, _, _, _, rfl⟩
      (by
        rintro i d s hd ⟨zs, z1, z2, s2, s3, s4, s5, rfl⟩
        rw [List.getElem?_map] at hd
        obtain ⟨x, hx, rfl⟩ := Option.map_eq_some_iff.mp hd
        have hi : i < 63 := by have := (List.getElem?_eq_some_iff.mp hx).1; omega
        refine ⟨_, by simp; rfl, ?_⟩
        by_cases hb : (1000000000000000000 : Int) ≤ x
        · obtain ⟨s', h1, zs', h2, h3, s2', s3', s4', s5', rfl⟩ := forL_invb (g := asg (.nm 4)) (b := evTs G sub fuel [.app 1 (.op .Mod (.blt .int [.var 3]) (.k (.int 1009))), .asg (.nm 3) (.op .FloorDiv (.var 3) (.k (.int 1009))), .iff (.cmp .Eq (.var 3) (.k (.int 0))) [.brk] []])
            (fun j s => ∃ zs' : List Int, zs'.length ≤ zs.length + j ∧ (∀ z ∈ zs', 0 ≤ z ∧ z < 1009) ∧ ∃ y s4 , s = [.val (.scr (ns.map .int)), .own (zs'.map .int), .val (.int x), .val (.int y), s4, s5])
            (fun s => ∃ zs' : List Int, zs'.length ≤ zs.length + 60 ∧ (∀ z ∈ zs', 0 ≤ z ∧ z < 1009) ∧ ∃ s2 s3 s4 s5, s = [.val (.scr (ns.map .int)), .own (zs'.map .int), s2, s3, s4, s5])
            (rngL 0 60) [.val (.scr (ns.map .int)), .own (zs.map .int), .val (.int x), .val (.int x), s4, s5]
            ⟨zs, by omega, z2, _, _, rfl⟩
            (by rintro s ⟨zs', h1, h2, y, s4, rfl⟩; exact ⟨zs', by simpa [rngL_len] using h1, h2, _, _, _, _, rfl⟩)
            (by
              rintro j d s hd ⟨zs', h1, h2, y, s4, rfl⟩
              obtain ⟨rfl, hj⟩ := rngL_get hd
              refine ⟨_, by simp; rfl, ?_⟩
              have hlen : zs'.length < 16777216 := by omega
              have hmem : ∀ z ∈ zs' ++ [y % 1009], 0 ≤ z ∧ z < 1009 := by
                intro z hz
                rcases List.mem_append.mp hz with hz | hz
                · exact h2 z hz
                · rw [List.mem_singleton] at hz; subst hz; omega
              have dv : opD .FloorDiv (.int y) (.int 1009) = .ok (.val (.int (y / 1009))) := opD_div (by omega) (by decide +kernel)
              by_cases hy : y / 1009 = 0
              · refine ⟨_, .inr ⟨?_, zs' ++ [y % 1009], by simp; omega, hmem, .val (.int x), .val (.int 0), .val (.int ((0 : Int) + (j : Int))), s5, rfl⟩⟩
                simp [opD_mod, hlen, dv, hy]
              · refine ⟨_, .inl ⟨?_, zs' ++ [y % 1009], by simp; omega, hmem, y / 1009, .val (.int ((0 : Int) + (j : Int))), rfl⟩⟩
                simp [opD_mod, hlen, dv, hy])
          refine ⟨_, ?_, zs', by omega, h3, s2', s3', s4', s5', rfl⟩
          simp [opD, small, hb, loopF, h1]
        · obtain ⟨s', h1, zs', h2, h3, y, s4', rfl, hy⟩ := forL_inv (g := asg (.nm 4)) (b := evTs G sub fuel [.asg (.nm 5) (.op .Mod (.blt .int [.op .Add (.op .Add (.op .Mult (.var 5) (.k (.int 48271))) (.op .Mult (.k (.int 7)) (.var 4))) (.k (.int 11))]) (.k (.int 2147483647))), .app 1 (.op .Mod (.op .Mod (.blt .int [.op .Add (.op .Mult (.var 5) (.k (.int 69621))) (.var 4)]) (.k (.int 2147483629))) (.k (.int 1009)))])
            (fun j s => ∃ zs' : List Int, zs'.length ≤ zs.length + j ∧ (∀ z ∈ zs', 0 ≤ z ∧ z < 1009) ∧ ∃ y s4 , s = [.val (.scr (ns.map .int)), .own (zs'.map .int), .val (.int x), .val (.int x), s4, .val (.int y)] ∧ 0 ≤ y ∧ y < 2147483647)
            (rngL 0 10) [.val (.scr (ns.map .int)), .own (zs.map .int), .val (.int x), .val (.int x), s4, .val (.int (x % 2147483647))]
            ⟨zs, by omega, z2, _, _, rfl, by omega, by omega⟩
            (by
              rintro j d s hd ⟨zs', h1, h2, y, s4, rfl, hy1, hy2⟩
              obtain ⟨rfl, hj⟩ := rngL_get hd
              refine ⟨_, by simp; rfl, ?_⟩
              have hlen : zs'.length < 16777216 := by omega
              have m1 : opD .Mult (.int y) (.int 48271) = .ok (.val (.int (y * 48271))) := opD_mulS (k := 32) (m := 32) (Sz.of_lt hy1 (n := 2147483647) (by omega) (by omega)) (by unfold Sz; decide) (by omega)
              have m2 : opD .Mult (.int 7) (.int ((0 : Int) + (j : Int))) = .ok (.val (.int (7 * ((0 : Int) + (j : Int))))) := opD_mulS (k := 32) (m := 32) (by unfold Sz; decide) (Sz.of_lt (by omega) (n := 2147483647) (by omega) (by omega)) (by omega)
              have m3 : ∀ z : Int, opD .Mult (.int (z % 2147483647)) (.int 69621) = .ok (.val (.int (z % 2147483647 * 69621))) := fun z => opD_mulS (k := 32) (m := 32) (Sz.of_lt (by omega) (n := 2147483647) (by omega) (by omega)) (by unfold Sz; decide) (by omega)
              simp only [Int.zero_add] at m2
              refine ⟨_, ?_, zs' ++ [((y * 48271 + 7 * ↑j + 11) % 2147483647 * 69621 + ↑j) % 2147483629 % 1009], by simp; omega, ?_, (y * 48271 + 7 * ↑j + 11) % 2147483647, .val (.int ((0 : Int) + (j : Int))), rfl, by omega, by omega⟩
              · simp [opD_mod, hlen, m1, m2, m3]
              intro z hz
              rcases List.mem_append.mp hz with hz | hz
              · exact h2 z hz
              · rw [List.mem_singleton] at hz; subst hz; omega)
          have h2' : zs'.length ≤ zs.length + 10 := by simpa [rngL_len] using h2
          refine ⟨_, ?_, zs', by omega, h3, .val (.int x), .val (.int x), s4', .val (.int y), rfl⟩
          simp [opD, small, hb, loopF, opD_mod, h1])
    refine ⟨zs, by simp at h2; omega, h3, _, _, _, _, h1⟩
  obtain ⟨zs, h1, h2, s2, s3, s4, s5, h3⟩ := main
  rw [d_run rfl]
  by_cases h0 : zs.length = 0
  · have : zs = [] := List.eq_nil_of_length_eq_zero h0
    subst this
    refine ⟨[0], ⟨by simp, by simp, by simp⟩, ?_⟩
    simp [d__law_stream, b__law_stream, startS, h3, cut63 ns hl]
  · refine ⟨zs, ⟨by omega, by omega, h2⟩, ?_⟩
    simp [d__law_stream, b__law_stream, startS, h3, cut63 ns hl, h0]
/-- a number of a law -/
def pk (zs : List Int) (at_ : Int) : Int := (zs[(at_ % (zs.length : Int)).toNat]?).getD 0
def PPick (g : List D → M R) : Prop := ∀ (zs : List Int) (i many : Int), Nums zs → 0 < many → g [.lst (zs.map .int), .int i, .int many] = .ok (.val (.int (pk zs i % many)))
theorem ok_pick {G : Env} {sub : Sub} {fuel : Nat} : PPick (d__law_pick.fn.run G sub fuel) := by
  intro zs i many ⟨h0, h1, h2⟩ hm
  rw [d_run rfl]
  have hl : (0 : Int) < (zs.length : Int) := by omega
  have e0 := Int.emod_nonneg i (Int.ne_of_gt hl)
  have e1 := Int.emod_lt_of_pos i hl
  have e2 : (i % (zs.length : Int)).toNat < zs.length := by omega
  have e : atI (zs.map D.int) (i % (zs.length : Int)) = some (.int (pk zs i)) := by
    rw [atI_map _ _ _ e0 e1, List.getElem?_eq_getElem e2]
    simp [pk, List.getElem?_eq_getElem e2]
  simp [d__law_pick, b__law_pick, startS, opD_mod hl, e, opD_mod hm]
def PInt (g : List D → M R) : Prop := ∀ (zs : List Int) (i : Int), Nums zs → ∃ v, Sz v 140 ∧ g [.lst (zs.map .int), .int i] = .ok (.val (.int v))
theorem ok_int {G : Env} {sub : Sub} {fuel : Nat} (hg : Has G 2 PPick) : PInt (d__law_int.fn.run G sub fuel) := by
  obtain ⟨g, h1, h2⟩ := hg
  intro zs i hz
  have hp : ∀ (i many : Int), 0 < many → g [.lst (zs.map .int), .int i, .int many] = .ok (.val (.int (pk zs i % many))) := fun i many hm => h2 zs i many hz hm
  rw [d_run rfl]
  -- the sign
  have hs : ∃ sg : Int, Sz sg 1 ∧ (M.ofO (atI [D.int 1, .int (-1)] (pk zs (i + 1) % 2)) = .ok (.int sg)) := by
    have : pk zs (i + 1) % 2 = 0 ∨ pk zs (i + 1) % 2 = 1 := by omega
    rcases this with h | h <;> rw [h]
    · exact ⟨1, by unfold Sz; decide, by simp⟩
    · exact ⟨-1, by unfold Sz; decide, by simp⟩
  obtain ⟨sg, s1, s2⟩ := hs
  by_cases w0 : pk zs i % 6 = 0
  · have : ∃ v : Int, Sz v 2 ∧ (M.ofO (atI [D.int 0, .int 1, .int (-1), .int 2] (pk zs (i + 2) % 4)) = .ok (.int v)) := by
      have : pk zs (i + 2) % 4 = 0 ∨ pk zs (i + 2) % 4 = 1 ∨ pk zs (i + 2) % 4 = 2 ∨ pk zs (i + 2) % 4 = 3 := by omega
      rcases this with h | h | h | h <;> rw [h]
      · exact ⟨0, by unfold Sz; decide, by simp⟩
      · exact ⟨1, by unfold Sz; decide, by simp⟩
      · exact ⟨-1, by unfold Sz; decide, rfl⟩
      · exact ⟨2, by unfold Sz; decide, rfl⟩
    obtain ⟨v, v1, v2⟩ := this
    refine ⟨v, v1.mono (by omega), ?_⟩
    simp [d__law_int, b__law_int, startS, h1, hp, s2, w0, v2]
  by_cases w4 : pk zs i % 6 < 4
  · have : ∃ v : Int, (0 < v ∧ v < 2000) ∧ (M.ofO (atI [D.int 12, .int 60, .int 1009] (pk zs i % 6 - 1)) = .ok (.int v)) := by
      have : pk zs i % 6 = 1 ∨ pk zs i % 6 = 2 ∨ pk zs i % 6 = 3 := by omega
      rcases this with h | h | h <;> rw [h]
      · exact ⟨12, by omega, rfl⟩
      · exact ⟨60, by omega, rfl⟩
      · exact ⟨1009, by omega, rfl⟩
    obtain ⟨v, v1, v2⟩ := this
    have hv : Sz (pk zs (i + 2) % v) 11 := Sz.of_lt (n := 2000) (Int.emod_nonneg _ (by omega)) (by have := Int.emod_lt_of_pos (pk zs (i + 2)) v1.1; omega) (by omega)
    refine ⟨sg * (pk zs (i + 2) % v), (Sz.mul s1 hv).mono (by omega), ?_⟩
    simp [d__law_int, b__law_int, startS, h1, hp, s2, w0, w4, v2, v1.1, opD_mulS s1 hv]
  · have hk : 0 ≤ pk zs (i + 2) % 12 ∧ pk zs (i + 2) % 12 < 12 := by omega
    obtain ⟨s', l1, v, y, v1, v2, rfl⟩ := forL_inv (g := asg (.nm 5)) (b := evTs G sub fuel [.asg (.nm 4) (.op .Add (.op .Mult (.var 4) (.k (.int 1009))) (.call 2 [.var 0, .op .Add (.op .Add (.var 1) (.k (.int 3))) (.var 5), .k (.int 1009)]))])
      (fun j s => ∃ v y, 0 ≤ v ∧ v < 2 ^ (10 * j) ∧ s = [.val (.lst (zs.map .int)), .val (.int i), .val (.int (pk zs i % 6)), .val (.int sg), .val (.int v), y])
      (rngL 0 (1 + pk zs (i + 2) % 12)) [.val (.lst (zs.map .int)), .val (.int i), .val (.int (pk zs i % 6)), .val (.int sg), .val (.int 0), .emp]
      ⟨0, _, by omega, by omega, rfl⟩
      (by
        rintro j d s hd ⟨v, y, v1, v2, rfl⟩
        obtain ⟨rfl, hj⟩ := rngL_get hd
        have hj2 : j ≤ 12 := by omega
        refine ⟨_, by simp; rfl, _, ?_, v * 1009 + pk zs (i + 3 + ((0 : Int) + (j : Int))) % 1009, .val (.int ((0 : Int) + (j : Int))), by omega, ?_, rfl⟩
        · have m1 : opD .Mult (.int v) (.int 1009) = .ok (.val (.int (v * 1009))) := opD_mulS (k := 10 * j) (m := 10) (by unfold Sz; have : ((2 : Int) ^ (10 * j)) = ((2 ^ (10 * j) : Nat) : Int) := by simp
                                                                                                                          omega) (by unfold Sz; decide) (by omega)
          simp [h1, hp, m1]
        · have : (2 : Int) ^ (10 * (j + 1)) = 2 ^ (10 * j) * 1024 := by rw [Nat.mul_add, Int.pow_add]; rfl
          omega)
    have hl : (rngL 0 (1 + pk zs (i + 2) % 12)).length ≤ 12 := by rw [rngL_len]; omega
    have hv : Sz v 120 := by
      unfold Sz
      have h3 : (2 : Nat) ^ (10 * (rngL 0 (1 + pk zs (i + 2) % 12)).length) ≤ 2 ^ 120 := Nat.pow_le_pow_right (by omega) (by omega)
      have h4 : ((2 : Int) ^ (10 * (rngL 0 (1 + pk zs (i + 2) % 12)).length)) = ((2 ^ (10 * (rngL 0 (1 + pk zs (i + 2) % 12)).length) : Nat) : Int) := by simp
      omega
    refine ⟨sg * v, (Sz.mul s1 hv).mono (by omega), ?_⟩
    have hsm : small (1 + pk zs (i + 2) % 12) = true := by unfold small; simp; omega
    simp [d__law_int, b__law_int, startS, h1, hp, s2, w0, w4, hsm, loopF, l1, opD_mulS s1 hv]
theorem ok_lgcd {G : Env} {sub : Sub} {fuel : Nat} : PGcd 19000 (d__law_gcd.fn.run G sub fuel) := by
  intro a b hb
  obtain ⟨z', e⟩ := euclid_for (g := asg (.nm 2)) (b := evTs G sub fuel [.iff (.cmp .Eq (.var 1) (.k (.int 0))) [.brk] [], .frz 1, .par [0, 1] [.var 1, .op .Mod (.blt .int [.var 0]) (.var 1)]])
    (by intro k x y z; simp)
    (by intro x k; simp)
    (by intro x y k hx hy
        have : ¬ y = 0 := by omega
        simp [opD_mod hy, this])
    19000 (List.range 40000) a.natAbs b.natAbs .emp hb (by rw [List.length_range]; omega)
  rw [d_run rfl]
  have r : rngL 0 40000 = (List.range 40000).map fun k : Nat => D.int k := by
    unfold rngL
    rw [show ((40000 : Int) - 0).toNat = 40000 from rfl]
    exact List.map_congr_left fun x _ => by rw [Int.zero_add]
  rw [← r] at e
  simp [d__law_gcd, b__law_gcd, startS, small, loopF, e]
  rfl

@[simp] theorem ix_qd0 (a : Rat) : ixD (qd a) (.int 0) = .ok (.val (.int a.num)) := rfl
@[simp] theorem ix_qd1 (a : Rat) : ixD (qd a) (.int 1) = .ok (.val (.int a.den)) := rfl
@[simp] theorem len_qd (a : Rat) : bltD .len [qd a] = .ok (.val (.int 2)) := rfl
@[simp] theorem isTy_qd (a : Rat) (t : Ty) : isTy t (qd a) = (t == .tuple) := isTy_tup _ t
@[simp] theorem den_gt (a : Rat) : decide ((1 : Int) ≤ a.den) = true := by have := den_pos a; simp only [decide_eq_true_eq]; omega
@[simp] theorem den_0 (a : Rat) : ((a.den : Int) = 0) = False := by have := den_pos a; simp only [eq_iff_iff, iff_false]; omega
/-- over the signs of numbers -/
def sg (n : Int) : Int := if n = 0 then 0 else if 0 < n then 1 else -1
def cmpQ (a b : Rat) : Int := if a = b then 0 else if b < a then 1 else -1
def PPlus (g : List D → M R) : Prop := ∀ a b, QS a 4000 → QS b 4000 → g [qd a, qd b] = .ok (.val (qd (a + b)))
def PMinus (g : List D → M R) : Prop := ∀ a b, QS a 4000 → QS b 4000 → g [qd a, qd b] = .ok (.val (qd (a - b)))
def PTimes (g : List D → M R) : Prop := ∀ a b, QS a 4000 → QS b 4000 → g [qd a, qd b] = .ok (.val (qd (a * b)))
def POver (g : List D → M R) : Prop := (∀ a, QS a 4000 → g [qd a, qd 0] = .ex 1) ∧ ∀ a b, b ≠ 0 → QS a 4000 → QS b 4000 → g [qd a, qd b] = .ok (.val (qd (a / b)))
def PNeg (g : List D → M R) : Prop := ∀ a, g [qd a] = .ok (.val (qd (-a)))
def PSign (g : List D → M R) : Prop := ∀ n d : Int, g [.tup [.int n, .int d]] = .ok (.val (.int (sg n)))
def PCmp (g : List D → M R) : Prop := ∀ a b, QS a 4000 → QS b 4000 → g [qd a, qd b] = .ok (.val (.int (cmpQ a b)))
def PFloor (g : List D → M R) : Prop := ∀ a, QS a 8000 → g [qd a] = .ok (.val (.int a.floor))
def PLRatio (g : List D → M R) : Prop := ∀ n d : Int, d ≠ 0 → Sz d 8000 → g [.int n, .int d] = .ok (.val (qd (Rat.divInt n d)))
section
variable {G : Env} {sub : Sub} {fuel : Nat}
theorem ok_plus (hg : Has G 4 (PRatio 8000)) : PPlus (d_plus.fn.run G sub fuel) := by
  obtain ⟨g, h1, _, h2⟩ := hg
  intro a b ha hb
  rw [d_run rfl]
  have e := h2 (a.num * b.den + b.num * a.den) (a.den * b.den) (Int.mul_ne_zero (den_ne a) (den_ne b)) ((Sz.mul ha.2 hb.2).mono (by omega))
  rw [q_add] at e
  simp [d_plus, b_plus, startS, opD_mulS ha.1 hb.2, opD_mulS hb.1 ha.2, opD_mulS ha.2 hb.2, h1, e]
theorem ok_times (hg : Has G 4 (PRatio 8000)) : PTimes (d_times.fn.run G sub fuel) := by
  obtain ⟨g, h1, _, h2⟩ := hg
  intro a b ha hb
  rw [d_run rfl]
  have e := h2 (a.num * b.num) (a.den * b.den) (Int.mul_ne_zero (den_ne a) (den_ne b)) ((Sz.mul ha.2 hb.2).mono (by omega))
  rw [q_mul] at e
  simp [d_times, b_times, startS, opD_mulS ha.1 hb.1, opD_mulS ha.2 hb.2, h1, e]
theorem ok_over (hg : Has G 4 (PRatio 8000)) : POver (d_over.fn.run G sub fuel) := by
  obtain ⟨g, h1, h0, h2⟩ := hg
  constructor
  · intro a ha
    rw [d_run rfl]
    have m := opD_mulS ha.2 QS.zero.1 (by omega)
    have m2 := opD_mulS ha.1 QS.zero.2 (by omega)
    simp at m m2
    simp [d_over, b_over, startS, h1, h0, m, m2]
  · intro a b hb0 ha hb
    rw [d_run rfl]
    have e := h2 (a.num * b.den) (a.den * b.num) (Int.mul_ne_zero (den_ne a) (by rw [Ne, Rat.num_eq_zero]; exact hb0)) ((Sz.mul ha.2 hb.1).mono (by omega))
    rw [q_div] at e
    simp [d_over, b_over, startS, opD_mulS ha.1 hb.2, opD_mulS ha.2 hb.1, h1, e]
theorem ok_negated : PNeg (d_negated.fn.run G sub fuel) := by
  intro a
  rw [d_run rfl]
  simp [d_negated, b_negated, startS, qd, Rat.neg_num, Rat.neg_den]
theorem ok_minus (hp : Has G 11 PPlus) (hn : Has G 12 PNeg) : PMinus (d_minus.fn.run G sub fuel) := by
  obtain ⟨g, h1, h2⟩ := hp
  obtain ⟨g', h1', h2'⟩ := hn
  intro a b ha hb
  rw [d_run rfl]
  simp [d_minus, b_minus, startS, h1, h1', h2' b, h2 a (-b) ha hb.neg, Rat.sub_eq_add_neg]
theorem ok_sign : PSign (d_sign_of.fn.run G sub fuel) := by
  intro n d
  rw [d_run rfl]
  by_cases h0 : n = 0
  · simp [d_sign_of, b_sign_of, startS, h0, sg]
  · by_cases h1 : 0 < n <;> simp [d_sign_of, b_sign_of, startS, h0, h1, sg]
theorem ok_compare (hs : Has G 13 PSign) : PCmp (d_compare.fn.run G sub fuel) := by
  obtain ⟨g, h1, h2⟩ := hs
  intro a b ha hb
  rw [d_run rfl]
  have e : cmpQ a b = sg (a.num * b.den - b.num * a.den) := by
    obtain ⟨q1, q2⟩ := q_sub_num a b
    unfold sg cmpQ
    by_cases h : a = b
    · rw [if_pos h, if_pos (q2.mpr h)]
    · rw [if_neg h, if_neg (fun h' => h (q2.mp h'))]
      by_cases h' : b < a
      · rw [if_pos h', if_pos]
        have : ¬ a < b := by grind
        rw [← q1] at this; rw [← q2] at h; omega
      · rw [if_neg h', if_neg]
        have : a < b := by grind
        rw [← q1] at this; omega
  rw [e]
  simp [d_compare, b_compare, startS, opD_mulS ha.1 hb.2, opD_mulS hb.1 ha.2, h1, h2 _ 1]
theorem ok_floor : PFloor (d_floor_of.fn.run G sub fuel) := by
  intro a ha
  rw [d_run rfl]
  simp [d_floor_of, b_floor_of, startS, opD_divS (den_pos a) ha.2, Rat.floor_def]
theorem ok_lratio (hg : Has G 3 (PGcd 19000)) : PLRatio (d__law_ratio.fn.run G sub fuel) := by
  obtain ⟨g, h1, h2⟩ := hg
  intro n d hd hs
  rw [d_run rfl, ← rt_q n d hd]
  have hp : (0 : Int) < Int.gcd n d := by have := Int.gcd_pos_iff.mpr (.inr hd : n ≠ 0 ∨ d ≠ 0); omega
  have hz : Sz (Int.gcd n d) 8000 := Sz.gcd_right hs hd
  by_cases h0 : d < 0
  · simp [d__law_ratio, b__law_ratio, startS, hd, h0, h1, h2 (-n) (-d) (hs.neg.mono (by omega)), opD_divS hp hz, rn, rd, rt]
  · simp [d__law_ratio, b__law_ratio, startS, hd, h0, h1, h2 n d (hs.mono (by omega)), opD_divS hp hz, rn, rd, rt]
theorem ok_lplus (hg : Has G 14 PLRatio) : PPlus (d__law_plus.fn.run G sub fuel) := by
  obtain ⟨g, h1, h2⟩ := hg
  intro a b ha hb
  rw [d_run rfl]
  have e := h2 (a.num * b.den + b.num * a.den) (a.den * b.den) (Int.mul_ne_zero (den_ne a) (den_ne b)) ((Sz.mul ha.2 hb.2).mono (by omega))
  rw [q_add] at e
  simp [d__law_plus, b__law_plus, startS, opD_mulS ha.1 hb.2, opD_mulS hb.1 ha.2, opD_mulS ha.2 hb.2, h1, e]
theorem ok_ltimes (hg : Has G 14 PLRatio) : PTimes (d__law_times.fn.run G sub fuel) := by
  obtain ⟨g, h1, h2⟩ := hg
  intro a b ha hb
  rw [d_run rfl]
  have e := h2 (a.num * b.num) (a.den * b.den) (Int.mul_ne_zero (den_ne a) (den_ne b)) ((Sz.mul ha.2 hb.2).mono (by omega))
  rw [q_mul] at e
  simp [d__law_times, b__law_times, startS, opD_mulS ha.1 hb.1, opD_mulS ha.2 hb.2, h1, e]
end
end EV

set_option linter.all false
set_option autoImplicit false
namespace EV
theorem le_divInt (x n d : Int) (hd : 0 < d) : x * (Rat.divInt n d).den ≤ (Rat.divInt n d).num ↔ x * d ≤ n := by
  obtain ⟨h1, h2⟩ := q_num n d (by omega)
  rw [h1, h2]
  have h3 := rn_mul n d (by omega)
  have h4 : 0 < rd n d := by have := rd_pos n d (by omega); omega
  generalize rd n d = r at *
  generalize rn n d = s at *
  constructor <;> intro h
  · refine Int.le_of_mul_le_mul_right (a := r) ?_ h4
    have := Int.mul_le_mul_of_nonneg_right h (Int.le_of_lt hd)
    grind
  · refine Int.le_of_mul_le_mul_right (a := d) ?_ hd
    have := Int.mul_le_mul_of_nonneg_right h (Int.le_of_lt h4)
    grind
theorem floor_divInt (n d : Int) (hd : 0 < d) : (Rat.divInt n d).floor = n / d := by
  have h : ∀ x : Int, x ≤ (Rat.divInt n d).floor ↔ x ≤ n / d := by
    intro x
    rw [Rat.floor_def, Int.le_ediv_iff_mul_le hd, Int.le_ediv_iff_mul_le (den_pos _)]
    exact le_divInt x n d hd
  have h1 := (h _).mp (Int.le_refl _)
  have h2 := (h _).mpr (Int.le_refl _)
  omega
theorem q_intmul (p : Int) (w : Rat) : Rat.divInt (p * w.num) w.den = (p : Rat) * w := by
  have := q_mul p w
  rw [Rat.num_intCast, Rat.den_intCast] at this
  rw [← this]; simp
theorem rngL0_get {hi : Int} {i : Nat} {d : D} (h : (rngL 0 hi)[i]? = some d) : d = .int i ∧ (i : Int) < hi := by
  have := rngL_get h
  rwa [Int.zero_add] at this
theorem qd_abs (w : Rat) : ∃ v : Rat, D.tup [.int (w.num.natAbs : Int), .int w.den] = qd v ∧ (∀ k, QS w k → QS v k) := by
  have h : (Rat.divInt (w.num.natAbs : Int) w.den).num = w.num.natAbs ∧ ((Rat.divInt (w.num.natAbs : Int) w.den).den : Int) = w.den := by
    refine q_of (by have := den_pos w; omega) ?_
    have := w.reduced
    simpa [Int.gcd] using this
  refine ⟨Rat.divInt (w.num.natAbs : Int) w.den, ?_, ?_⟩
  · unfold qd; rw [h.1, h.2]
  · intro k hk; unfold QS; rw [h.1, h.2]; exact ⟨hk.1.abs, hk.2⟩
theorem sg_neg (n : Int) : (sg n < 0) ↔ n < 0 := by unfold sg; (repeat' split) <;> omega
theorem sg_pos (n : Int) : (0 < sg n) ↔ 0 < n := by unfold sg; (repeat' split) <;> omega
theorem sg_0 (n : Int) : (sg n = 0) ↔ n = 0 := by unfold sg; (repeat' split) <;> omega
def PTrue (g : List D → M R) : Prop := ∀ ns : List Int, ns.length ≤ 63 → g [.scr (ns.map .int)] = .ok (.val (.bl true))
end EV

set_option linter.all false
set_option autoImplicit false
namespace EV
/-! EvL3: rows of ratios. -/
def rowD (qs : List Rat) : D := .tup (qs.map qd)
/-- all of a row are small -/
def RS (qs : List Rat) (k : Nat) : Prop := ∀ q ∈ qs, QS q k
theorem RS.mono {qs : List Rat} {k m : Nat} (h : RS qs k) (hk : k ≤ m) : RS qs m := fun q hq => (h q hq).mono hk
theorem lcL_map {α : Type} {F : D → M (Option D)} {xs : List α} {f : α → D} {h : α → D} (hs : ∀ x ∈ xs, F (f x) = .ok (some (h x))) : lcL F (xs.map f) = .ok (xs.map h) := by
  induction xs with
  | nil => rfl
  | cons x r ih =>
    simp only [List.map_cons, lcL, hs x (List.mem_cons_self ..), M_bind_ok, ih (fun y hy => hs y (List.mem_cons_of_mem _ hy))]
theorem lcE_map {α : Type} {G : Env} {sub : Sub} {vs : List Nat} {tg : Tg} {c : Option E} {e : E} {ss : List S} {xs : List α} {f h : α → D} (hs : ∀ x ∈ xs, lcF G sub vs tg c e ss (f x) = .ok (some (h x))) : lcE G sub vs tg c e ss (xs.map f) = .ok (xs.map h) := by
  unfold lcE
  rw [lcL_map hs]
  rfl
theorem rngL_map {n : Int} : rngL 0 n = (List.range n.toNat).map fun k : Nat => D.int k := by
  unfold rngL
  rw [Int.sub_zero]
  exact List.map_congr_left fun x _ => by rw [Int.zero_add]
theorem zipL_map {α β : Type} (f : α → D) (h : β → D) (xs : List α) (ys : List β) : zipL (xs.map f) (ys.map h) = (xs.zip ys).map fun p => .tup [f p.1, h p.2] := by
  unfold zipL
  rw [List.zipWith_map]
  induction xs generalizing ys with
  | nil => rfl
  | cons x r ih => cases ys with
    | nil => rfl
    | cons y s => simp only [List.zipWith_cons_cons, List.zip_cons_cons, List.map_cons, ih]
@[simp] theorem rowD_wf (qs : List Rat) : wf 60 (rowD qs) = true := by
  unfold rowD
  simp only [wf, List.all_map, List.all_eq_true]
  intro q _
  exact qd_wf q 58
theorem eqDs_row (a b : List Rat) : eqDs (a.map qd) (b.map qd) = decide (a = b) := by
  induction a generalizing b with
  | nil => cases b <;> simp [eqDs]
  | cons x r ih => cases b with
    | nil => simp [eqDs]
    | cons y s => simp only [List.map_cons, eqDs, qd_eq, ih, List.cons.injEq, Bool.decide_and]
@[simp] theorem eqD_row (a b : List Rat) : eqD (rowD a) (rowD b) = decide (a = b) := by
  unfold rowD; rw [eqD]; exact eqDs_row a b
@[simp] theorem deepM_row (a b : List Rat) (t : Bool) : deepM (rowD a) (rowD b) t = .ok (.val (.bl t)) := by
  unfold deepM; rw [rowD_wf, rowD_wf]; rfl
@[simp] theorem deepM_qd (a b : Rat) (t : Bool) : deepM (qd a) (qd b) t = .ok (.val (.bl t)) := by
  unfold deepM; rw [qd_wf, qd_wf]; rfl
@[simp] theorem eqD_qd (a b : Rat) : eqD (qd a) (qd b) = decide (a = b) := qd_eq a b
@[simp] theorem len_row (a : List Rat) : bltD .len [rowD a] = .ok (.val (.int a.length)) := by unfold rowD; simp
@[simp] theorem isTy_row (a : List Rat) (t : Ty) : isTy t (rowD a) = (t == .tuple) := isTy_tup _ t
@[simp] theorem itD_row (a : List Rat) : itD (rowD a) = .ok (a.map qd) := rfl
@[simp] theorem zipD_row (a b : List Rat) : zipD (rowD a) (rowD b) = .ok ((a.zip b).map fun p => .tup [qd p.1, qd p.2]) := by
  show M.ok (zipL (a.map qd) (b.map qd)) = _
  rw [zipL_map]
theorem ix_row {a : List Rat} {i : Int} {q : Rat} (h0 : 0 ≤ i) (h : a[i.toNat]? = some q) : ixD (rowD a) (.int i) = .ok (.val (qd q)) := by
  have h1 : i.toNat < a.length := (List.getElem?_eq_some_iff.mp h).1
  unfold rowD
  rw [ix_tup, atI_map _ _ _ h0 (by omega), h]
  rfl
@[simp] theorem tuple_map (a : List Rat) : bltD .tuple [.lst (a.map qd)] = .ok (.val (rowD a)) := rfl
/-- the sum of the products -/
def dot (xs ys : List Rat) : Rat := (List.zipWith (· * ·) xs ys).sum
theorem QS_sum {l : List Rat} {m : Nat} (h : RS l m) : QS l.sum (l.length * (m + 1) + 1) := by
  induction l with
  | nil => exact QS.zero.mono (by omega)
  | cons x r ih =>
    rw [List.sum_cons]
    refine (QS.add (h x (List.mem_cons_self ..)) (ih fun y hy => h y (List.mem_cons_of_mem _ hy))).mono ?_
    rw [List.length_cons, Nat.add_mul]; omega
theorem RS_zip {xs ys : List Rat} {k m : Nat} (h : RS xs k) (h' : RS ys m) : RS (List.zipWith (· * ·) xs ys) (k + m) := by
  intro q hq
  rw [← List.map_uncurry_zip_eq_zipWith, List.mem_map] at hq
  obtain ⟨p, hp, rfl⟩ := hq
  exact QS.mul (h _ (List.of_mem_zip hp).1) (h' _ (List.of_mem_zip hp).2)
theorem QS_dot {xs ys : List Rat} {k m : Nat} (h : RS xs k) (h' : RS ys m) : QS (dot xs ys) (xs.length * (k + m + 1) + 1) := by
  refine (QS_sum (RS_zip h h')).mono ?_
  rw [List.length_zipWith]
  have := Nat.mul_le_mul_right (k + m + 1) (Nat.min_le_left xs.length ys.length)
  omega
section
variable {G : Env} {sub : Sub} {fuel : Nat}
/-- check_widths, of two rows -/
def PWidths (g : List D → M R) : Prop := ∀ xs ys : List Rat, g [rowD xs, rowD ys] = if xs.length = ys.length then .ok (.val .non) else .ex 1
theorem ok_widths : PWidths (d_check_widths.fn.run G sub fuel) := by
  intro xs ys
  rw [d_run rfl]
  by_cases h : xs.length = ys.length
  · simp [d_check_widths, b_check_widths, startS, h]
  · have : ¬ (xs.length : Int) = ys.length := by omega
    simp [d_check_widths, b_check_widths, startS, h, this]
/-- the sums, place by place -/
def addR (xs ys : List Rat) : List Rat := List.zipWith (· + ·) xs ys
theorem zip_addR (xs ys : List Rat) : (xs.zip ys).map (fun p => qd (p.1 + p.2)) = (addR xs ys).map qd := by
  unfold addR; rw [← List.map_uncurry_zip_eq_zipWith, List.map_map]; rfl
def PAddRows (g : List D → M R) : Prop := ∀ xs ys : List Rat, RS xs 4000 → RS ys 4000 → xs.length < 1000 → g [rowD xs, rowD ys] = if xs.length = ys.length then .ok (.val (rowD (addR xs ys))) else .ex 1
theorem ok_add_rows (hw : Has G 30 PWidths) (hp : Has G 11 PPlus) : PAddRows (d_add_rows.fn.run G sub fuel) := by
  obtain ⟨k1, i1, j1⟩ := hw
  obtain ⟨k2, i2, j2⟩ := hp
  intro xs ys hx hy hl
  rw [d_run rfl]
  have e := j1 xs ys
  by_cases h : xs.length = ys.length
  · rw [if_pos h] at e
    have lc : ∀ s3 s4, lcE G sub [2, 3] (.tup [.nm 2, .nm 3]) none (.call 11 [.var 2, .var 3]) [.val (rowD xs), .val (rowD ys), s3, s4] ((xs.zip ys).map fun p => .tup [qd p.1, qd p.2]) = .ok ((addR xs ys).map qd) := by
      intro s3 s4
      rw [← zip_addR]
      refine lcE_map fun p hp => ?_
      have := j2 p.1 p.2 (hx _ (List.of_mem_zip hp).1) (hy _ (List.of_mem_zip hp).2)
      simp [lcF, wipe, lcI, i2, this]
    have hl3 : ys.length ≤ 16777216 := by omega
    simp [d_add_rows, b_add_rows, startS, i1, e, h, lc, hl3]
    rfl
  · rw [if_neg h] at e
    simp [d_add_rows, b_add_rows, startS, i1, e, h]
def PScale (g : List D → M R) : Prop := ∀ (f : Rat) (xs : List Rat), QS f 4000 → RS xs 4000 → xs.length < 1000 → g [qd f, rowD xs] = .ok (.val (rowD (xs.map (f * ·))))
theorem ok_scale (ht : Has G 16 PTimes) : PScale (d_scale_row.fn.run G sub fuel) := by
  obtain ⟨k2, i2, j2⟩ := ht
  intro f xs hf hx hl
  rw [d_run rfl]
  have lc : ∀ s3, lcE G sub [2] (.nm 2) none (.call 16 [.var 0, .var 2]) [.val (qd f), .val (rowD xs), s3] (xs.map qd) = .ok ((xs.map (f * ·)).map qd) := by
    intro s3
    rw [List.map_map]
    refine lcE_map fun q hq => ?_
    have := j2 f q hf (hx _ hq)
    simp [lcF, wipe, lcI, i2, this]
  have hl3 : xs.length ≤ 16777216 := by omega
  generalize hys : xs.map (f * ·) = ys at *
  simp [d_scale_row, b_scale_row, startS, lc, hl3]
  rfl
def PProd (g : List D → M R) : Prop := (∀ xs ys : List Rat, xs.length ≠ ys.length → g [rowD xs, rowD ys] = .ex 1) ∧ ∀ (xs ys : List Rat) (k m : Nat), xs.length = ys.length → RS xs k → RS ys m → k ≤ 4000 → m ≤ 4000 → xs.length * (k + m + 1) + 1 ≤ 3999 → xs.length < 1000 → g [rowD xs, rowD ys] = .ok (.val (qd (dot xs ys)))
theorem ok_product (hw : Has G 30 PWidths) (h10 : Has G 10 POfI) (hp : Has G 11 PPlus) (ht : Has G 16 PTimes) : PProd (d_product.fn.run G sub fuel) := by
  obtain ⟨k1, i1, j1⟩ := hw
  obtain ⟨k2, i2, j2⟩ := h10
  obtain ⟨k3, i3, j3⟩ := hp
  obtain ⟨k4, i4, j4⟩ := ht
  constructor
  · intro xs ys h
    rw [d_run rfl]
    have e := j1 xs ys
    rw [if_neg h] at e
    simp [d_product, b_product, startS, i1, e]
  intro xs ys k m h hx hy hk hm hs hl
  rw [d_run rfl]
  have e := j1 xs ys
  rw [if_pos h] at e
  have e0 : k2 [.int 0] = .ok (.val (qd 0)) := j2 0
  obtain ⟨s', w1, s3, s4, rfl⟩ := forL_inv (g := asg (.tup [.nm 3, .nm 4])) (b := evTs G sub fuel [.frz 2, .asg (.nm 2) (.call 11 [.var 2, .call 16 [.var 3, .var 4]])])
    (fun i s => ∃ s3 s4, s = [.val (rowD xs), .val (rowD ys), .val (qd ((List.zipWith (· * ·) xs ys).take i).sum), s3, s4])
    ((xs.zip ys).map fun p => .tup [qd p.1, qd p.2]) [.val (rowD xs), .val (rowD ys), .val (qd 0), .emp, .emp] ⟨_, _, rfl⟩
    (by
      rintro i d s hd ⟨s3, s4, rfl⟩
      rw [List.getElem?_map] at hd
      obtain ⟨p, hp, rfl⟩ := Option.map_eq_some_iff.mp hd
      have hm2 := List.of_mem_zip (List.mem_of_getElem? hp)
      refine ⟨_, by simp; rfl, ?_⟩
      have f1 := j4 p.1 p.2 ((hx _ hm2.1).mono hk) ((hy _ hm2.2).mono hm)
      have hi : i < xs.length := by
        have := (List.getElem?_eq_some_iff.mp hp).1
        rw [List.length_zip] at this; omega
      have hsz : QS ((List.zipWith (· * ·) xs ys).take i).sum (xs.length * (k + m + 1) + 1) := by
        refine (QS_sum (m := k + m) fun q hq => RS_zip hx hy q (List.mem_of_mem_take hq)).mono ?_
        rw [List.length_take]
        have := Nat.mul_le_mul_right (k + m + 1) (show min i (List.zipWith (· * ·) xs ys).length ≤ xs.length by omega)
        omega
      have f2 := j3 _ (p.1 * p.2) (hsz.mono (by omega)) ((QS.mul (hx _ hm2.1) (hy _ hm2.2)).mono (by
        have := Nat.mul_le_mul_right (k + m + 1) (show 1 ≤ xs.length by omega)
        omega))
      have hz : (List.zipWith (· * ·) xs ys)[i]? = some (p.1 * p.2) := by
        rw [← List.map_uncurry_zip_eq_zipWith, List.getElem?_map, hp]; rfl
      have hsum : ((List.zipWith (· * ·) xs ys).take (i + 1)).sum = ((List.zipWith (· * ·) xs ys).take i).sum + p.1 * p.2 := by
        rw [List.take_add_one, hz, List.sum_append]
        simp [Rat.add_zero]
      refine ⟨_, ?_, .val (qd p.1), .val (qd p.2), rfl⟩
      rw [hsum]
      generalize ((List.zipWith (· * ·) xs ys).take i).sum = t at *
      simp [i3, i4, f1, f2])
  have hd : ((List.zipWith (· * ·) xs ys).take ((xs.zip ys).map fun p => D.tup [qd p.1, qd p.2]).length).sum = dot xs ys := by
    unfold dot
    rw [List.take_of_length_le (by rw [List.length_map, List.length_zip, List.length_zipWith]; omega)]
  rw [hd] at w1
  simp [d_product, b_product, startS, i1, e, i2, e0, loopF, w1]
end
end EV

set_option linter.all false
set_option autoImplicit false
namespace EV
def b__law_numbers : List T := [
  .asg (.nm 2) (.lst []),
  .forr (.nm 3) (.rng [.blt .len [.var 0]]) [.asg (.nm 6) (.blt .abs [.blt .int [.ix (.var 0) (.var 3)]]), .iff (.cmp .GtE (.var 6) (.op .Pow (.k (.int 10)) (.k (.int 18)))) [.forr (.nm 7) (.rng [.k (.int 60)]) [.iff (.and (.cmp .Gt (.var 6) (.k (.int 0))) (.one (.cmp .Lt (.blt .len [.var 2]) (.var 1)))) [.app 2 (.op .Mod (.var 6) (.k (.int 10007))), .asg (.nm 6) (.op .FloorDiv (.var 6) (.k (.int 10007)))] []]] [.iff (.cmp .Lt (.blt .len [.var 2]) (.var 1)) [.asg (.nm 8) (.op .Mod (.blt .int [.op .Add (.op .Add (.op .Mult (.var 6) (.k (.int 48271))) (.op .Mult (.var 3) (.k (.int 69621)))) (.k (.int 11))]) (.k (.int 2147483647))), .app 2 (.op .FloorDiv (.op .Mod (.blt .int [.op .Add (.op .Add (.op .Mult (.var 8) (.k (.int 16807))) (.op .Mult (.k (.int 7)) (.var 3))) (.k (.int 3))]) (.k (.int 2147483647))) (.k (.int 3)))] []]],
  .asg (.nm 4) (.blt .len [.var 2]),
  .asg (.nm 5) (.op .Add (.k (.int 5381)) (.blt .len [.var 0])),
  .forr (.nm 3) (.rng [.blt .max2 [.k (.int 0), .op .Sub (.var 1) (.var 4)]]) [.iff (.cmp .Gt (.var 4) (.k (.int 0))) [.asg (.nm 5) (.op .Add (.var 5) (.ix (.var 2) (.op .Mod (.var 3) (.var 4))))] [], .asg (.nm 5) (.op .Mod (.blt .int [.op .Add (.op .Mult (.var 5) (.k (.int 48271))) (.var 3)]) (.k (.int 2147483647))), .app 2 (.op .FloorDiv (.var 5) (.k (.int 7)))],
  .ret (.sl (.var 2) none (some (.var 1)))]
def d__law_numbers : Def := ⟨50, "_law_numbers", ["_law_script", "_law_many"], ["_law_script", "_law_many", "_law_numbers_here", "_law_k", "_law_base", "_law_last", "_law_cell", "_law_j", "_law_mixed"], b__law_numbers⟩
def b__law_ratio_v2 : List T := [
  .asg (.nm 2) (.blt .abs [.var 0]),
  .asg (.nm 3) (.blt .abs [.var 1]),
  .forr (.nm 4) (.rng [.k (.int 4000)]) [.iff (.cmp .Eq (.var 3) (.k (.int 0))) [.brk] [], .asg (.nm 5) (.op .Mod (.blt .int [.var 2]) (.var 3)), .frz 3, .asg (.nm 2) (.var 3), .frz 5, .asg (.nm 3) (.var 5)],
  .iff (.cmp .Lt (.var 1) (.k (.int 0))) [.asg (.nm 2) (.op .Sub (.k (.int 0)) (.var 2))] [],
  .ret (.tup [.op .FloorDiv (.var 0) (.var 2), .op .FloorDiv (.var 1) (.var 2)])]
def d__law_ratio_v2 : Def := ⟨14, "_law_ratio", ["_law_n", "_law_d"], ["_law_n", "_law_d", "_law_one", "_law_other", "_law_turn", "_law_rest"], b__law_ratio_v2⟩
def b__law_less : List T := [
  .ret (.cmp .Lt (.op .Mult (.ix (.var 0) (.k (.int 0))) (.ix (.var 1) (.k (.int 1)))) (.op .Mult (.ix (.var 1) (.k (.int 0))) (.ix (.var 0) (.k (.int 1)))))]
def d__law_less : Def := ⟨57, "_law_less", ["_law_first", "_law_second"], ["_law_first", "_law_second"], b__law_less⟩
def b__law_product : List T := [
  .asg (.nm 2) (.tup [.k (.int 0), .k (.int 1)]),
  .forr (.nm 3) (.rng [.blt .len [.var 0]]) [.iff (.and (.cmp .NotEq (.ix (.ix (.var 0) (.var 3)) (.k (.int 0))) (.k (.int 0))) (.one (.cmp .NotEq (.ix (.ix (.var 1) (.var 3)) (.k (.int 0))) (.k (.int 0))))) [.frz 2, .asg (.nm 2) (.call 21 [.var 2, .call 31 [.ix (.var 0) (.var 3), .ix (.var 1) (.var 3)]])] []],
  .ret (.var 2)]
def d__law_product : Def := ⟨56, "_law_product", ["_law_first", "_law_second"], ["_law_first", "_law_second", "_law_total", "_law_k"], b__law_product⟩
def b__law_part : List T := [
  .asg (.nm 1) (.op .Mod (.var 0) (.k (.int 7))),
  .iff (.cmp .Lt (.var 1) (.k (.int 2))) [.ret (.tup [.k (.int 0), .k (.int 1)])] [],
  .iff (.cmp .Lt (.var 1) (.k (.int 5))) [.ret (.tup [.op .Sub (.op .Mod (.op .FloorDiv (.var 0) (.k (.int 7))) (.k (.int 7))) (.k (.int 3)), .k (.int 1)])] [],
  .ret (.call 14 [.op .Sub (.op .Mod (.op .FloorDiv (.var 0) (.k (.int 7))) (.k (.int 11))) (.k (.int 5)), .op .Add (.k (.int 1)) (.op .Mod (.op .FloorDiv (.var 0) (.k (.int 77))) (.k (.int 4)))])]
def d__law_part : Def := ⟨48, "_law_part", ["_law_number"], ["_law_number", "_law_way"], b__law_part⟩
def b__law_row : List T := [
  .ret (.blt .tuple [.lc [3] (.nm 3) (.rng [.var 2]) none (.call 48 [.ix (.var 0) (.op .Mod (.blt .int [.op .Add (.var 1) (.op .Mult (.k (.int 3)) (.var 3))]) (.blt .len [.var 0]))])])]
def d__law_row : Def := ⟨37, "_law_row", ["_law_numbers_here", "_law_at", "_law_width"], ["_law_numbers_here", "_law_at", "_law_width", "_law_k"], b__law_row⟩
def b__law_bound : List T := [
  .ret (.call 14 [.op .Sub (.op .Mod (.var 0) (.k (.int 25))) (.var 1), .op .Add (.k (.int 1)) (.op .Mod (.op .FloorDiv (.var 0) (.k (.int 25))) (.k (.int 3)))])]
def d__law_bound : Def := ⟨49, "_law_bound", ["_law_number", "_law_low"], ["_law_number", "_law_low"], b__law_bound⟩
def b__law_system : List T := [
  .asg (.nm 4) (.lst []),
  .forr (.nm 5) (.rng [.var 2]) [.asg (.nm 6) (.ix (.lst [.k (.str "<="), .k (.str "<="), .k (.str "=")]) (.op .Mod (.ix (.var 0) (.op .Mod (.blt .int [.op .Add (.k (.int 7)) (.op .Mult (.k (.int 5)) (.var 5))]) (.blt .len [.var 0]))) (.k (.int 3)))), .asg (.nm 7) (.call 49 [.ix (.var 0) (.op .Mod (.blt .int [.op .Add (.k (.int 11)) (.op .Mult (.k (.int 5)) (.var 5))]) (.blt .len [.var 0])), .var 3]), .frz 6, .frz 7, .app 4 (.tup [.call 37 [.var 0, .op .Add (.k (.int 13)) (.op .Mult (.k (.int 41)) (.var 5)), .var 1], .var 6, .var 7])],
  .ret (.tup [.var 1, .blt .tuple [.var 4]])]
def d__law_system : Def := ⟨51, "_law_system", ["_law_numbers_here", "_law_width", "_law_count", "_law_low"], ["_law_numbers_here", "_law_width", "_law_count", "_law_low", "_law_conditions", "_law_k", "_law_relation", "_law_bound_here"], b__law_system⟩
def b_is_kept : List T := [
  .asg (.nm 3) (.call 17 [.var 0, .var 2]),
  .ret (.or (.cmp .Eq (.var 3) (.k (.int 0))) (.one (.and (.cmp .Lt (.var 3) (.k (.int 0))) (.one (.cmp .Eq (.var 1) (.k (.str "<=")))))))]
def d_is_kept : Def := ⟨53, "is_kept", ["total", "relation", "bound"], ["total", "relation", "bound", "order"], b_is_kept⟩
def b_keeps : List T := [
  .ret (.call 53 [.call 36 [.ix (.var 0) (.k (.int 0)), .var 1], .ix (.var 0) (.k (.int 1)), .ix (.var 0) (.k (.int 2))])]
def d_keeps : Def := ⟨55, "keeps", ["condition", "row"], ["condition", "row"], b_keeps⟩
def b_is_positive : List T := [
  .ret (.and (.cmp .Eq (.blt .len [.var 0]) (.var 1)) (.one (.blt .all [.lc [2] (.nm 2) (.seq (.var 0)) none (.cmp .GtE (.call 13 [.var 2]) (.k (.int 0)))])))]
def d_is_positive : Def := ⟨54, "is_positive", ["row", "width"], ["row", "width", "part"], b_is_positive⟩
def b_is_history : List T := [
  .iff (.not (.call 54 [.var 1, .ix (.var 0) (.k (.int 0))])) [.ret (.k (.bl false))] [],
  .ret (.blt .all [.lc [2] (.nm 2) (.seq (.ix (.var 0) (.k (.int 1)))) none (.call 55 [.var 2, .var 1])])]
def d_is_history : Def := ⟨60, "is_history", ["system", "row"], ["system", "row", "condition"], b_is_history⟩
end EV

set_option linter.all false
set_option autoImplicit false
namespace EV
/-! EvL4: the functions that the laws about systems share. -/
theorem euclid_gen {g : D → List S → Option (List S)} {b : List S → F} (P : Int → Int → List S → Prop)
    (h0 : ∀ (x : Int) (k : Nat) s, P x 0 s → ∃ s1, g (.int k) s = some s1 ∧ ∃ s', b s1 = .bk s' ∧ P x 0 s')
    (hb : ∀ (x y : Int) (k : Nat) s, 0 ≤ x → 0 < y → P x y s → ∃ s1, g (.int k) s = some s1 ∧ ∃ s', b s1 = .nx s' ∧ P y (x % y) s') :
    ∀ (m : Nat) (ks : List Nat) (x y : Nat) (s : List S), y < 2 ^ m → 2 * m + 1 ≤ ks.length → P x y s → ∃ s', forL g b (ks.map fun k : Nat => D.int k) s = .nx s' ∧ P (Nat.gcd x y : Nat) 0 s' := by
  intro m
  induction m with
  | zero =>
    intro ks x y s h hn hp
    obtain ⟨k, ks, rfl⟩ := List.length_pos_iff_exists_cons.mp (by omega : 0 < ks.length)
    have : y = 0 := by simpa using h
    subst this
    obtain ⟨s1, e1, s', e2, e3⟩ := h0 x k s hp
    exact ⟨s', by simp [forL, e1, e2], by simpa using e3⟩
  | succ m ih =>
    intro ks x y s h hn hp
    obtain ⟨k, ks, rfl⟩ := List.length_pos_iff_exists_cons.mp (by omega : 0 < ks.length)
    simp only [List.length_cons] at hn
    by_cases hy : y = 0
    · subst hy
      obtain ⟨s1, e1, s', e2, e3⟩ := h0 x k s hp
      exact ⟨s', by simp [forL, e1, e2], by simpa using e3⟩
    · have hy' : (0 : Int) < (y : Int) := by omega
      have hr : x % y < y := Nat.mod_lt _ (by omega)
      have e : (x : Int) % (y : Int) = ((x % y : Nat) : Int) := by simp
      have g' : Nat.gcd x y = Nat.gcd y (x % y) := by rw [Nat.gcd_comm x y, Nat.gcd_rec y x, Nat.gcd_comm]
      obtain ⟨s1, e1, s', e2, e3⟩ := hb x y k s (Int.natCast_nonneg x) hy' hp
      rw [e] at e3
      simp only [List.map_cons, forL, e1, e2]
      by_cases hr2 : x % y < 2 ^ m
      · rw [g']; exact ih ks y (x % y) _ hr2 (by omega) e3
      · obtain ⟨k2, ks, rfl⟩ := List.length_pos_iff_exists_cons.mp (by omega : 0 < ks.length)
        simp only [List.length_cons] at hn
        have p2 : 2 ^ (m+1) = 2 * 2 ^ m := by rw [Nat.pow_succ]; omega
        have hr0 : (0 : Int) < ((x % y : Nat) : Int) := by have := Nat.two_pow_pos m; omega
        have e2' : (y : Int) % ((x % y : Nat) : Int) = ((y % (x % y) : Nat) : Int) := by simp
        have q : y % (x % y) < 2 ^ m := by
          have h1 : y % (x % y) = (y - x % y) % (x % y) := Nat.mod_eq_sub_mod (by omega)
          have h2 := Nat.mod_le (y - x % y) (x % y)
          omega
        have g2 : Nat.gcd y (x % y) = Nat.gcd (x % y) (y % (x % y)) := by rw [Nat.gcd_comm y (x % y), Nat.gcd_rec (x % y) y, Nat.gcd_comm]
        obtain ⟨t1, f1, t', f2, f3⟩ := hb y (x % y : Nat) k2 s' (Int.natCast_nonneg y) hr0 e3
        rw [e2'] at f3
        simp only [List.map_cons, forL, f1, f2]
        rw [g', g2]
        exact ih ks _ _ _ q (by omega) f3
theorem rngL0_map (n : Nat) : rngL 0 (n : Int) = (List.range n).map fun k : Nat => D.int k := by rw [rngL_map]; simp
section
variable {G : Env} {sub : Sub} {fuel : Nat}
/-- _law_ratio of the laws about systems, of a denominator above 0 -/
def PLRatio2 (g : List D → M R) : Prop := ∀ n d : Int, 0 < d → Sz d 1900 → g [.int n, .int d] = .ok (.val (qd (Rat.divInt n d)))
theorem ok_lratio2 : PLRatio2 (d__law_ratio_v2.fn.run G sub fuel) := by
  intro n d hd hs
  rw [d_run rfl, ← rt_q n d (by omega)]
  have hp : (0 : Int) < Int.gcd n d := by have := Int.gcd_pos_iff.mpr (.inr (by omega) : n ≠ 0 ∨ d ≠ 0); omega
  have hz : Sz (Int.gcd n d) 1900 := Sz.gcd_right hs (by omega)
  have hda : (d.natAbs : Int) = d := by omega
  obtain ⟨s', w1, s4, s5, rfl⟩ := euclid_gen (g := asg (.nm 4)) (b := evTs G sub fuel [.iff (.cmp .Eq (.var 3) (.k (.int 0))) [.brk] [], .asg (.nm 5) (.op .Mod (.blt .int [.var 2]) (.var 3)), .frz 3, .asg (.nm 2) (.var 3), .frz 5, .asg (.nm 3) (.var 5)])
    (fun x y s => ∃ s4 s5, s = [.val (.int n), .val (.int d), .val (.int x), .val (.int y), s4, s5])
    (by
      rintro x k s ⟨s4, s5, rfl⟩
      refine ⟨_, by simp; rfl, _, ?_, .val (.int (k : Int)), s5, rfl⟩
      simp)
    (by
      rintro x y k s hx hy ⟨s4, s5, rfl⟩
      have : ¬ y = 0 := by omega
      refine ⟨_, by simp; rfl, _, ?_, .val (.int (k : Int)), .val (.int (x % y)), rfl⟩
      simp [opD_mod hy, this])
    1900 (List.range 4000) n.natAbs d.natAbs [.val (.int n), .val (.int d), .val (.int (n.natAbs : Int)), .val (.int (d.natAbs : Int)), .emp, .emp] hs (by rw [List.length_range]; omega) ⟨_, _, rfl⟩
  rw [← rngL0_map] at w1
  have h0 : ¬ d < 0 := by omega
  have hg : ((Nat.gcd n.natAbs d.natAbs : Nat) : Int) = (Int.gcd n d : Int) := rfl
  rw [hg] at w1
  have w2 : loopF G sub fuel (.nm 4) [.iff (.cmp .Eq (.var 3) (.k (.int 0))) [.brk] [], .asg (.nm 5) (.op .Mod (.blt .int [.var 2]) (.var 3)), .frz 3, .asg (.nm 2) (.var 3), .frz 5, .asg (.nm 3) (.var 5)] (rngL 0 4000) [.val (.int n), .val (.int d), .val (.int (n.natAbs : Int)), .val (.int (d.natAbs : Int)), .emp, .emp] = .nx [.val (.int n), .val (.int d), .val (.int (Int.gcd n d : Int)), .val (.int 0), s4, s5] := w1
  have hsm : small 4000 = true := by decide
  simp only [d__law_ratio_v2, b__law_ratio_v2, startS]
  simp [hsm, w2, h0, opD_divS hp hz, rt, rn, rd]
theorem ok_lplus2 (hg : Has G 14 PLRatio2) : ∀ a b, QS a 900 → QS b 900 → d__law_plus.fn.run G sub fuel [qd a, qd b] = .ok (.val (qd (a + b))) := by
  obtain ⟨g, h1, h2⟩ := hg
  intro a b ha hb
  rw [d_run rfl]
  have e := h2 (a.num * b.den + b.num * a.den) (a.den * b.den) (Int.mul_pos (den_pos a) (den_pos b)) ((Sz.mul ha.2 hb.2).mono (by omega))
  rw [q_add] at e
  simp [d__law_plus, b__law_plus, startS, opD_mulS ha.1 hb.2, opD_mulS hb.1 ha.2, opD_mulS ha.2 hb.2, h1, e]
theorem ok_ltimes2 (hg : Has G 14 PLRatio2) : ∀ a b, QS a 900 → QS b 900 → d__law_times.fn.run G sub fuel [qd a, qd b] = .ok (.val (qd (a * b))) := by
  obtain ⟨g, h1, h2⟩ := hg
  intro a b ha hb
  rw [d_run rfl]
  have e := h2 (a.num * b.num) (a.den * b.den) (Int.mul_pos (den_pos a) (den_pos b)) ((Sz.mul ha.2 hb.2).mono (by omega))
  rw [q_mul] at e
  simp [d__law_times, b__law_times, startS, opD_mulS ha.1 hb.1, opD_mulS ha.2 hb.2, h1, e]
def PLess (g : List D → M R) : Prop := ∀ a b, QS a 4000 → QS b 4000 → g [qd a, qd b] = .ok (.val (.bl (decide (a < b))))
theorem ok_less : PLess (d__law_less.fn.run G sub fuel) := by
  intro a b ha hb
  rw [d_run rfl]
  have e : decide (a < b) = decide (a.num * b.den < b.num * a.den) := by rw [decide_eq_decide, Rat.lt_iff]
  rw [e]
  simp [d__law_less, b__law_less, startS, opD_mulS ha.1 hb.2, opD_mulS hb.1 ha.2]
end
end EV

set_option linter.all false
set_option autoImplicit false
namespace EV
/-- the numbers of a law about systems -/
def NumsS (zs : List Int) (n : Nat) : Prop := zs.length = n ∧ ∀ z ∈ zs, 0 ≤ z ∧ z < 2147483648
section
variable {G : Env} {sub : Sub} {fuel : Nat}
def PNumsS (g : List D → M R) : Prop := ∀ (ns : List Int) (many : Nat), ns.length ≤ 63 → 1 ≤ many → many ≤ 1000 → ∃ zs, NumsS zs many ∧ g [.scr (ns.map .int), .int many] = .ok (.own (zs.map .int))
theorem ok_numsS : PNumsS (d__law_numbers.fn.run G sub fuel) := by
  intro ns many hl hm hm2
  rw [d_run rfl]
  have inr : ∀ (zs : List Int) (x : Int), (∀ z ∈ zs, 0 ≤ z ∧ z < 2147483648) → 0 ≤ x → x < 2147483648 → ∀ z ∈ zs ++ [x], 0 ≤ z ∧ z < 2147483648 := by
    intro zs x h1 h2 h3 z hz
    rcases List.mem_append.mp hz with hz | hz
    · exact h1 z hz
    · rw [List.mem_singleton] at hz; subst hz; exact ⟨h2, h3⟩
  obtain ⟨s', w1, zs, z1, z2, s3, s6, s7, s8, rfl⟩ := forL_inv (g := asg (.nm 3)) (b := evTs G sub fuel [.asg (.nm 6) (.blt .abs [.blt .int [.ix (.var 0) (.var 3)]]), .iff (.cmp .GtE (.var 6) (.op .Pow (.k (.int 10)) (.k (.int 18)))) [.forr (.nm 7) (.rng [.k (.int 60)]) [.iff (.and (.cmp .Gt (.var 6) (.k (.int 0))) (.one (.cmp .Lt (.blt .len [.var 2]) (.var 1)))) [.app 2 (.op .Mod (.var 6) (.k (.int 10007))), .asg (.nm 6) (.op .FloorDiv (.var 6) (.k (.int 10007)))] []]] [.iff (.cmp .Lt (.blt .len [.var 2]) (.var 1)) [.asg (.nm 8) (.op .Mod (.blt .int [.op .Add (.op .Add (.op .Mult (.var 6) (.k (.int 48271))) (.op .Mult (.var 3) (.k (.int 69621)))) (.k (.int 11))]) (.k (.int 2147483647))), .app 2 (.op .FloorDiv (.op .Mod (.blt .int [.op .Add (.op .Add (.op .Mult (.var 8) (.k (.int 16807))) (.op .Mult (.k (.int 7)) (.var 3))) (.k (.int 3))]) (.k (.int 2147483647))) (.k (.int 3)))] []]])
    (fun i s => ∃ zs : List Int, zs.length ≤ many ∧ (∀ z ∈ zs, 0 ≤ z ∧ z < 2147483648) ∧ ∃ s3 s6 s7 s8, s = [.val (.scr (ns.map .int)), .val (.int many), .own (zs.map .int), s3, .emp, .emp, s6, s7, s8])
    (rngL 0 (ns.length : Int)) [.val (.scr (ns.map .int)), .val (.int many), .own [], .emp, .emp, .emp, .emp, .emp, .emp] ⟨[], by simp, by simp, _, _, _, _, rfl⟩
    (by
      rintro k d s hd ⟨zs, z1, z2, s3, s6, s7, s8, rfl⟩
      obtain ⟨rfl, hk⟩ := rngL0_get hd
      refine ⟨_, by simp; rfl, ?_⟩
      have hk' : k < ns.length := by omega
      obtain ⟨x, hx⟩ : ∃ x, x = ns[k] := ⟨_, rfl⟩
      have at1 : atI (ns.map D.int) (k : Int) = some (.int x) := by
        rw [atI_map _ _ _ (by omega) (by omega), Int.toNat_natCast, List.getElem?_eq_getElem hk', ← hx]; rfl
      have hlen : zs.length < 16777216 := by omega
      by_cases hb : (1000000000000000000 : Int) ≤ x.natAbs
      · obtain ⟨s', v1, zs', y1, y2, c, s7', c0, rfl⟩ := forL_inv (g := asg (.nm 7)) (b := evTs G sub fuel [.iff (.and (.cmp .Gt (.var 6) (.k (.int 0))) (.one (.cmp .Lt (.blt .len [.var 2]) (.var 1)))) [.app 2 (.op .Mod (.var 6) (.k (.int 10007))), .asg (.nm 6) (.op .FloorDiv (.var 6) (.k (.int 10007)))] []])
          (fun j s => ∃ zs' : List Int, zs'.length ≤ many ∧ (∀ z ∈ zs', 0 ≤ z ∧ z < 2147483648) ∧ ∃ (c : Int) (s7 : S), 0 ≤ c ∧ s = [.val (.scr (ns.map .int)), .val (.int many), .own (zs'.map .int), .val (.int (k : Int)), .emp, .emp, .val (.int c), s7, s8])
          (rngL 0 60) [.val (.scr (ns.map .int)), .val (.int many), .own (zs.map .int), .val (.int (k : Int)), .emp, .emp, .val (.int (x.natAbs : Int)), s7, s8] ⟨zs, z1, z2, _, _, by omega, rfl⟩
          (by
            rintro j d s hd ⟨zs', y1, y2, c, s7, c0, rfl⟩
            obtain ⟨rfl, hj⟩ := rngL0_get hd
            refine ⟨_, by simp; rfl, ?_⟩
            have hlen' : zs'.length < 16777216 := by omega
            have dv : opD .FloorDiv (.int c) (.int 10007) = .ok (.val (.int (c / 10007))) := opD_div (by omega) (by decide +kernel)
            by_cases h1 : 0 < c
            · by_cases h2 : (zs'.length : Int) < many
              · refine ⟨_, ?_, zs' ++ [c % 10007], by simp; omega, inr zs' _ y2 (by omega) (by omega), c / 10007, .val (.int (j : Int)), by omega, rfl⟩
                have h2' : zs'.length < many := by omega
                simp [h1, h2', opD_mod, dv, hlen']
              · refine ⟨_, ?_, zs', y1, y2, c, .val (.int (j : Int)), c0, rfl⟩
                have h2' : ¬ zs'.length < many := by omega
                simp [h1, h2']
            · refine ⟨_, ?_, zs', y1, y2, c, .val (.int (j : Int)), c0, rfl⟩
              simp [h1])
        refine ⟨_, ?_, zs', y1, y2, .val (.int (k : Int)), .val (.int c), s7', s8, rfl⟩
        have hsm : small 60 = true := by decide
        simp [at1, opD, hb, hsm, loopF, v1]
      · by_cases h2 : zs.length < many
        · have m1 : opD .Mult (.int (x.natAbs : Int)) (.int 48271) = .ok (.val (.int ((x.natAbs : Int) * 48271))) := opD_mulS (k := 70) (m := 32) (Sz.of_lt (n := 1000000000000000000) (by omega) (by omega) (by omega)) (by unfold Sz; decide) (by omega)
          have m2 : opD .Mult (.int (k : Int)) (.int 69621) = .ok (.val (.int ((k : Int) * 69621))) := opD_mulS (k := 32) (m := 32) (Sz.of_lt (n := 2147483647) (by omega) (by omega) (by omega)) (by unfold Sz; decide) (by omega)
          have m3 : ∀ z : Int, opD .Mult (.int (z % 2147483647)) (.int 16807) = .ok (.val (.int (z % 2147483647 * 16807))) := fun z => opD_mulS (k := 32) (m := 32) (Sz.of_lt (n := 2147483647) (by omega) (by omega) (by omega)) (by unfold Sz; decide) (by omega)
          have m4 : opD .Mult (.int 7) (.int (k : Int)) = .ok (.val (.int (7 * (k : Int)))) := opD_mulS (k := 32) (m := 32) (by unfold Sz; decide) (Sz.of_lt (n := 2147483647) (by omega) (by omega) (by omega)) (by omega)
          have dv : ∀ c : Int, opD .FloorDiv (.int c) (.int 3) = .ok (.val (.int (c / 3))) := fun c => opD_div (by omega) (by decide +kernel)
          refine ⟨_, ?_, zs ++ [((((x.natAbs : Int) * 48271 + (k : Int) * 69621 + 11) % 2147483647 * 16807 + 7 * (k : Int) + 3) % 2147483647) / 3], by simp; omega, inr zs _ z2 (by omega) (by omega), .val (.int (k : Int)), .val (.int (x.natAbs : Int)), s7, .val (.int (((x.natAbs : Int) * 48271 + (k : Int) * 69621 + 11) % 2147483647)), rfl⟩
          have h10 : opD .Pow (.int 10) (.int 18) = .ok (.val (.int 1000000000000000000)) := rfl
          simp [at1, h10, hb, h2, m1, m2, m3, m4, opD_mod, dv, hlen]
        · refine ⟨_, ?_, zs, z1, z2, .val (.int (k : Int)), .val (.int (x.natAbs : Int)), s7, s8, rfl⟩
          have h10 : opD .Pow (.int 10) (.int 18) = .ok (.val (.int 1000000000000000000)) := rfl
          simp [at1, h10, hb, h2])
  obtain ⟨s', w2, ys, y1, y2, l, s3', l0, l1, rfl⟩ := forL_inv (g := asg (.nm 3)) (b := evTs G sub fuel [.iff (.cmp .Gt (.var 4) (.k (.int 0))) [.asg (.nm 5) (.op .Add (.var 5) (.ix (.var 2) (.op .Mod (.var 3) (.var 4))))] [], .asg (.nm 5) (.op .Mod (.blt .int [.op .Add (.op .Mult (.var 5) (.k (.int 48271))) (.var 3)]) (.k (.int 2147483647))), .app 2 (.op .FloorDiv (.var 5) (.k (.int 7)))])
    (fun i s => ∃ ys : List Int, ys.length = zs.length + i ∧ (∀ z ∈ ys, 0 ≤ z ∧ z < 2147483648) ∧ ∃ (l : Int) (s3 : S), 0 ≤ l ∧ l < 2147483648 ∧ s = [.val (.scr (ns.map .int)), .val (.int many), .own (ys.map .int), s3, .val (.int zs.length), .val (.int l), s6, s7, s8])
    (rngL 0 ((many : Int) - zs.length)) [.val (.scr (ns.map .int)), .val (.int many), .own (zs.map .int), s3, .val (.int zs.length), .val (.int (5381 + (ns.length : Int))), s6, s7, s8] ⟨zs, rfl, z2, _, _, by omega, by omega, rfl⟩
    (by
      rintro k d s hd ⟨ys, y1, y2, l, s3, l0, l1, rfl⟩
      obtain ⟨rfl, hk⟩ := rngL0_get hd
      refine ⟨_, by simp; rfl, ?_⟩
      have hlen : ys.length < 16777216 := by omega
      have dv : ∀ c : Int, opD .FloorDiv (.int c) (.int 7) = .ok (.val (.int (c / 7))) := fun c => opD_div (by omega) (by decide +kernel)
      by_cases h0 : 0 < zs.length
      · have b1 := Int.emod_nonneg (k : Int) (show (zs.length : Int) ≠ 0 by omega)
        have b2 := Int.emod_lt_of_pos (k : Int) (show (0 : Int) < (zs.length : Int) by omega)
        have md : opD .Mod (.int (k : Int)) (.int (zs.length : Int)) = .ok (.val (.int ((k : Int) % (zs.length : Int)))) := opD_mod (by omega)
        generalize (k : Int) % (zs.length : Int) = ix at *
        have hix : ix.toNat < ys.length := by omega
        obtain ⟨x, hx⟩ : ∃ x, x = ys[ix.toNat] := ⟨_, rfl⟩
        have hx2 := y2 x (by rw [hx]; exact List.getElem_mem _)
        have at1 : atI (ys.map D.int) ix = some (.int x) := by
          rw [atI_map _ _ _ (by omega) (by omega), List.getElem?_eq_getElem hix, ← hx]; rfl
        have m1 : opD .Mult (.int (l + x)) (.int 48271) = .ok (.val (.int ((l + x) * 48271))) := opD_mulS (k := 33) (m := 32) (Sz.of_lt (n := 4294967296) (by omega) (by omega) (by omega)) (by unfold Sz; decide) (by omega)
        refine ⟨_, ?_, ys ++ [(((l + x) * 48271 + (k : Int)) % 2147483647) / 7], by simp; omega, inr ys _ y2 (by omega) (by omega), ((l + x) * 48271 + (k : Int)) % 2147483647, .val (.int (k : Int)), by omega, by omega, rfl⟩
        simp [h0, md, at1, m1, opD_mod, dv, hlen]
      · have m1 : opD .Mult (.int l) (.int 48271) = .ok (.val (.int (l * 48271))) := opD_mulS (k := 33) (m := 32) (Sz.of_lt (n := 4294967296) (by omega) (by omega) (by omega)) (by unfold Sz; decide) (by omega)
        refine ⟨_, ?_, ys ++ [((l * 48271 + (k : Int)) % 2147483647) / 7], by simp; omega, inr ys _ y2 (by omega) (by omega), (l * 48271 + (k : Int)) % 2147483647, .val (.int (k : Int)), by omega, by omega, rfl⟩
        simp [h0, m1, opD_mod, dv, hlen])
  rw [rngL_len] at y1
  have y3 : ys.length = many := by omega
  refine ⟨ys, ⟨y3, y2⟩, ?_⟩
  have hsm : small (ns.length : Int) = true := by unfold small; simp; omega
  have mx : bltD .max2 [.int 0, .int ((many : Int) - zs.length)] = .ok (.val (.int ((many : Int) - zs.length))) := by
    show M.ok (R.val (D.int (if (many : Int) - zs.length > 0 then (many : Int) - zs.length else 0))) = _
    split
    · rfl
    · have : (many : Int) - zs.length = 0 := by omega
      rw [this]
  have hsm2 : small ((many : Int) - zs.length) = true := by unfold small; simp; omega
  have ct : cut (ys.map D.int) none (some (many : Int)) = ys.map .int := by
    unfold cut
    rw [show sIx (ys.map D.int).length 0 none = 0 from rfl, List.drop_zero, Nat.sub_zero]
    refine List.take_of_length_le ?_
    rw [List.length_map]; unfold sIx; simp only; rw [if_neg (by omega)]; omega
  simp [d__law_numbers, b__law_numbers, startS, hsm, loopF, w1, mx, hsm2, w2, ct]
end
end EV

set_option linter.all false
set_option autoImplicit false
namespace EV
def pkS (zs : List Int) (i : Int) : Int := (zs[(i % (zs.length : Int)).toNat]?).getD 0
theorem pkS_at {zs : List Int} {n : Nat} (hz : NumsS zs n) (hn : 1 ≤ n) (i : Int) : opD .Mod (.int i) (.int (zs.length : Int)) = .ok (.val (.int (i % (zs.length : Int)))) ∧ atI (zs.map D.int) (i % (zs.length : Int)) = some (.int (pkS zs i)) ∧ 0 ≤ pkS zs i ∧ pkS zs i < 2147483648 := by
  have hl : (0 : Int) < (zs.length : Int) := by have := hz.1; omega
  have e0 := Int.emod_nonneg i (Int.ne_of_gt hl)
  have e1 := Int.emod_lt_of_pos i hl
  have e2 : (i % (zs.length : Int)).toNat < zs.length := by omega
  have hp : pkS zs i = zs[(i % (zs.length : Int)).toNat] := by simp [pkS, List.getElem?_eq_getElem e2]
  refine ⟨opD_mod hl, ?_, ?_⟩
  · rw [atI_map _ _ _ e0 e1, List.getElem?_eq_getElem e2, hp]; rfl
  · rw [hp]; exact hz.2 _ (List.getElem_mem _)
def partQ (n : Int) : Rat := if n % 7 < 2 then 0 else if n % 7 < 5 then ((n / 7 % 7 - 3 : Int) : Rat) else Rat.divInt (n / 7 % 11 - 5) (1 + n / 77 % 4)
theorem partQ_sz (n : Int) : QS (partQ n) 5 := by
  unfold partQ
  split
  · exact QS.zero.mono (by omega)
  · split
    · exact QS.ofInt (by unfold Sz; omega) (by omega)
    · exact QS.divInt (by omega) (by unfold Sz; omega) (by unfold Sz; omega)
def boundQ (n low : Int) : Rat := Rat.divInt (n % 25 - low) (1 + n / 25 % 3)
theorem boundQ_sz (n low : Int) (h0 : 0 ≤ low) (h1 : low ≤ 100) : QS (boundQ n low) 8 := by
  unfold boundQ
  exact QS.divInt (by omega) (by unfold Sz; omega) (by unfold Sz; omega)
def rowS (zs : List Int) (i : Int) (w : Nat) : List Rat := (List.range w).map fun k : Nat => partQ (pkS zs (i + 3 * (k : Int)))
theorem rowS_len (zs : List Int) (i : Int) (w : Nat) : (rowS zs i w).length = w := by simp [rowS]
theorem rowS_sz (zs : List Int) (i : Int) (w : Nat) : RS (rowS zs i w) 5 := by
  intro q hq
  obtain ⟨p, hp, rfl⟩ := List.mem_map.mp hq
  exact partQ_sz _
/-- a condition -/
structure Cond where
  a : List Rat
  le : Bool
  b : Rat
def relS (b : Bool) : PySem.Str := if b then "<=" else "="
def cD (c : Cond) : D := .tup [rowD c.a, .str (relS c.le), qd c.b]
/-- a system -/
def sysD (w : Nat) (cs : List Cond) : D := .tup [.int w, .tup (cs.map cD)]
def condS (zs : List Int) (w : Nat) (low : Int) (k : Nat) : Cond := ⟨rowS zs (13 + 41 * (k : Int)) w, decide (pkS zs (7 + 5 * (k : Int)) % 3 ≤ 1), boundQ (pkS zs (11 + 5 * (k : Int))) low⟩
section
variable {G : Env} {sub : Sub} {fuel : Nat}
def PPart (g : List D → M R) : Prop := ∀ n : Int, 0 ≤ n → g [.int n] = .ok (.val (qd (partQ n)))
theorem ok_part (h14 : Has G 14 PLRatio2) : PPart (d__law_part.fn.run G sub fuel) := by
  obtain ⟨k, i, j⟩ := h14
  intro n hn
  rw [d_run rfl]
  have m7 : ∀ x : Int, opD .Mod (.int x) (.int 7) = .ok (.val (.int (x % 7))) := fun x => opD_mod (by omega)
  have dv : ∀ c : Int, opD .FloorDiv (.int c) (.int 7) = .ok (.val (.int (c / 7))) := fun c => opD_div (by omega) (by decide +kernel)
  have dv2 : ∀ c : Int, opD .FloorDiv (.int c) (.int 77) = .ok (.val (.int (c / 77))) := fun c => opD_div (by omega) (by decide +kernel)
  unfold partQ
  by_cases h1 : n % 7 < 2
  · rw [if_pos h1]
    simp [d__law_part, b__law_part, startS, m7, h1]
    rfl
  · rw [if_neg h1]
    by_cases h2 : n % 7 < 5
    · rw [if_pos h2, qd_int]
      simp [d__law_part, b__law_part, startS, m7, h1, h2, dv]
    · rw [if_neg h2]
      have e := j (n / 7 % 11 - 5) (1 + n / 77 % 4) (by omega) (Sz.mono (k := 5) (by unfold Sz; omega) (by omega))
      generalize Rat.divInt (n / 7 % 11 - 5) (1 + n / 77 % 4) = q at *
      simp [d__law_part, b__law_part, startS, m7, h1, h2, dv, dv2, opD_mod, i, e]
def PBound (g : List D → M R) : Prop := ∀ n low : Int, 0 ≤ low → low ≤ 100 → g [.int n, .int low] = .ok (.val (qd (boundQ n low)))
theorem ok_bound (h14 : Has G 14 PLRatio2) : PBound (d__law_bound.fn.run G sub fuel) := by
  obtain ⟨k, i, j⟩ := h14
  intro n low h0 h1
  rw [d_run rfl]
  have dv : ∀ c : Int, opD .FloorDiv (.int c) (.int 25) = .ok (.val (.int (c / 25))) := fun c => opD_div (by omega) (by decide +kernel)
  have e := j (n % 25 - low) (1 + n / 25 % 3) (by omega) (Sz.mono (k := 5) (by unfold Sz; omega) (by omega))
  unfold boundQ
  generalize Rat.divInt (n % 25 - low) (1 + n / 25 % 3) = q at *
  simp [d__law_bound, b__law_bound, startS, opD_mod, dv, i, e]
def PRowS (g : List D → M R) : Prop := ∀ (zs : List Int) (n : Nat) (i : Int) (w : Nat), NumsS zs n → 1 ≤ n → n ≤ 1000 → w ≤ 30 → g [.lst (zs.map .int), .int i, .int w] = .ok (.val (rowD (rowS zs i w)))
theorem ok_rowS (h48 : Has G 48 PPart) : PRowS (d__law_row.fn.run G sub fuel) := by
  obtain ⟨k1, i1, j1⟩ := h48
  intro zs n i w hz hn hn2 hw
  rw [d_run rfl]
  have lc : ∀ s3, lcE G sub [3] (.nm 3) none (.call 48 [.ix (.var 0) (.op .Mod (.blt .int [.op .Add (.var 1) (.op .Mult (.k (.int 3)) (.var 3))]) (.blt .len [.var 0]))]) [.val (.lst (zs.map .int)), .val (.int i), .val (.int w), s3] (rngL 0 w) = .ok ((rowS zs i w).map qd) := by
    intro s3
    rw [rngL0_map, rowS, List.map_map]
    refine lcE_map fun k hk => ?_
    have hk' := List.mem_range.mp hk
    have m1 : opD .Mult (.int 3) (.int (k : Int)) = .ok (.val (.int (3 * (k : Int)))) := opD_mulS (k := 10) (m := 10) (by unfold Sz; decide) (Sz.of_lt (n := 40) (by omega) (by omega) (by omega)) (by omega)
    obtain ⟨a1, a2, a3, a4⟩ := pkS_at hz hn (i + 3 * (k : Int))
    have := j1 (pkS zs (i + 3 * (k : Int))) a3
    simp [lcF, wipe, lcI, i1, m1, a1, a2, this]
  have hsm : small (w : Int) = true := by unfold small; simp; omega
  have hl : (rngL 0 (w : Int)).length ≤ 16777216 := by rw [rngL_len]; omega
  generalize rowS zs i w = r at *
  simp [-blt_tuple_lst, d__law_row, b__law_row, startS, hsm, hl, lc]
end
end EV

set_option linter.all false
set_option autoImplicit false
namespace EV
def keptQ (t : Rat) (le : Bool) (b : Rat) : Bool := decide (t = b) || (le && decide (t < b))
def keptC (c : Cond) (x : List Rat) : Bool := keptQ (dot c.a x) c.le c.b
theorem rel_deep (le t : Bool) : deepM (.str (relS le)) (.str "<=") t = .ok (.val (.bl t)) := by
  have : ∀ le, wf 60 (.str (relS le)) = true := by intro le; cases le <;> decide +kernel
  unfold deepM
  rw [this, show wf 60 (.str "<=") = true by decide +kernel]
  rfl
theorem rel_eq (le : Bool) : eqD (.str (relS le)) (.str "<=") = le := by cases le <;> decide +kernel
theorem cmpQ_0 (a b : Rat) : (cmpQ a b = 0) ↔ a = b := by unfold cmpQ; (repeat' split) <;> simp_all
theorem cmpQ_neg (a b : Rat) : (cmpQ a b < 0) ↔ a < b := by
  unfold cmpQ
  split
  · rename_i h; subst h; simp
  · split
    · simp; grind
    · simp; grind
section
variable {G : Env} {sub : Sub} {fuel : Nat}
def PSystem (g : List D → M R) : Prop := ∀ (zs : List Int) (n w c : Nat) (low : Int), NumsS zs n → 1 ≤ n → n ≤ 1000 → w ≤ 30 → c ≤ 60 → 0 ≤ low → low ≤ 100 → g [.lst (zs.map .int), .int w, .int c, .int low] = .ok (.val (sysD w ((List.range c).map (condS zs w low))))
theorem ok_system (h49 : Has G 49 PBound) (h37 : Has G 37 PRowS) : PSystem (d__law_system.fn.run G sub fuel) := by
  obtain ⟨k1, i1, j1⟩ := h49
  obtain ⟨k2, i2, j2⟩ := h37
  intro zs n w c low hz hn hn2 hw hc h0 h1
  rw [d_run rfl]
  obtain ⟨s', w1, s5, s6, s7, rfl⟩ := forL_inv (g := asg (.nm 5)) (b := evTs G sub fuel [.asg (.nm 6) (.ix (.lst [.k (.str "<="), .k (.str "<="), .k (.str "=")]) (.op .Mod (.ix (.var 0) (.op .Mod (.blt .int [.op .Add (.k (.int 7)) (.op .Mult (.k (.int 5)) (.var 5))]) (.blt .len [.var 0]))) (.k (.int 3)))), .asg (.nm 7) (.call 49 [.ix (.var 0) (.op .Mod (.blt .int [.op .Add (.k (.int 11)) (.op .Mult (.k (.int 5)) (.var 5))]) (.blt .len [.var 0])), .var 3]), .frz 6, .frz 7, .app 4 (.tup [.call 37 [.var 0, .op .Add (.k (.int 13)) (.op .Mult (.k (.int 41)) (.var 5)), .var 1], .var 6, .var 7])])
    (fun j s => ∃ s5 s6 s7, s = [.val (.lst (zs.map .int)), .val (.int w), .val (.int c), .val (.int low), .own (((List.range j).map (condS zs w low)).map cD), s5, s6, s7])
    (rngL 0 (c : Int)) [.val (.lst (zs.map .int)), .val (.int w), .val (.int c), .val (.int low), .own [], .emp, .emp, .emp] ⟨.emp, .emp, .emp, rfl⟩
    (by
      rintro k d s hd ⟨s5, s6, s7, rfl⟩
      obtain ⟨rfl, hk⟩ := rngL0_get hd
      refine ⟨_, by simp; rfl, ?_⟩
      have m1 : opD .Mult (.int 5) (.int (k : Int)) = .ok (.val (.int (5 * (k : Int)))) := opD_mulS (k := 10) (m := 10) (by unfold Sz; decide) (Sz.of_lt (n := 100) (by omega) (by omega) (by omega)) (by omega)
      have m2 : opD .Mult (.int 41) (.int (k : Int)) = .ok (.val (.int (41 * (k : Int)))) := opD_mulS (k := 10) (m := 10) (by unfold Sz; decide) (Sz.of_lt (n := 100) (by omega) (by omega) (by omega)) (by omega)
      obtain ⟨a1, a2, a3, a4⟩ := pkS_at hz hn (7 + 5 * (k : Int))
      obtain ⟨b1, b2, b3, b4⟩ := pkS_at hz hn (11 + 5 * (k : Int))
      have e1 := j1 (pkS zs (11 + 5 * (k : Int))) low h0 h1
      have e2 := j2 zs n (13 + 41 * (k : Int)) w hz hn hn2 hw
      have rel : M.ofO (atI [D.str "<=", .str "<=", .str "="] (pkS zs (7 + 5 * (k : Int)) % 3)) = .ok (.str (relS (decide (pkS zs (7 + 5 * (k : Int)) % 3 ≤ 1)))) := by
        have : pkS zs (7 + 5 * (k : Int)) % 3 = 0 ∨ pkS zs (7 + 5 * (k : Int)) % 3 = 1 ∨ pkS zs (7 + 5 * (k : Int)) % 3 = 2 := by omega
        rcases this with h | h | h <;> rw [h] <;> rfl
      have hl : k < 16777216 := by omega
      refine ⟨_, ?_, .val (.int (k : Int)), .val (.str (relS (decide (pkS zs (7 + 5 * (k : Int)) % 3 ≤ 1)))), .val (qd (boundQ (pkS zs (11 + 5 * (k : Int))) low)), rfl⟩
      have hc : cD (condS zs w low k) = .tup [rowD (rowS zs (13 + 41 * (k : Int)) w), .str (relS (decide (pkS zs (7 + 5 * (k : Int)) % 3 ≤ 1))), qd (boundQ (pkS zs (11 + 5 * (k : Int))) low)] := rfl
      rw [List.range_succ, List.map_append, List.map_append, List.map_singleton, List.map_singleton, hc]
      obtain ⟨cs, hcs⟩ : ∃ cs, cs = ((List.range k).map (condS zs w low)).map cD := ⟨_, rfl⟩
      have hlen : cs.length < 16777216 := by rw [hcs]; simpa using hl
      rw [← hcs]
      generalize rowS zs (13 + 41 * (k : Int)) w = r at *
      generalize boundQ (pkS zs (11 + 5 * (k : Int))) low = bq at *
      generalize relS (decide (pkS zs (7 + 5 * (k : Int)) % 3 ≤ 1)) = rl at *
      simp [-List.map_map, i1, i2, m1, m2, a1, a2, b1, b2, e1, e2, rel, opD_mod, hlen, hl]
      rw [hcs, List.map_map])
  have hsm : small (c : Int) = true := by unfold small; simp; omega
  rw [rngL_len, show ((c : Int) - 0).toNat = c by omega] at w1
  have hs : sysD w ((List.range c).map (condS zs w low)) = .tup [.int w, .tup (((List.range c).map (condS zs w low)).map cD)] := rfl
  rw [hs]
  generalize ((List.range c).map (condS zs w low)).map cD = cs at *
  simp [d__law_system, b__law_system, startS, hsm, loopF, w1]
def PKept (g : List D → M R) : Prop := ∀ (t : Rat) (le : Bool) (b : Rat), QS t 4000 → QS b 4000 → g [qd t, .str (relS le), qd b] = .ok (.val (.bl (keptQ t le b)))
theorem ok_kept (h17 : Has G 17 PCmp) : PKept (d_is_kept.fn.run G sub fuel) := by
  obtain ⟨k, i, j⟩ := h17
  intro t le b ht hb
  rw [d_run rfl]
  have e := j t b ht hb
  have h1 := cmpQ_0 t b
  have h2 := cmpQ_neg t b
  unfold keptQ
  by_cases c1 : t = b
  · have d1 := h1.mpr c1
    have c1' : (t = b) = True := eq_true c1
    simp [d_is_kept, b_is_kept, startS, i, e, d1, c1']
  · have d1 : ¬ cmpQ t b = 0 := fun h => c1 (h1.mp h)
    by_cases c2 : t < b
    · have d2 := h2.mpr c2
      simp [d_is_kept, b_is_kept, startS, i, e, d1, d2, c1, c2, rel_deep, rel_eq]
    · have d2 : ¬ cmpQ t b < 0 := fun h => c2 (h2.mp h)
      simp [d_is_kept, b_is_kept, startS, i, e, d1, d2, c1, c2]
def PKeeps (g : List D → M R) : Prop := ∀ (c : Cond) (x : List Rat) (k m : Nat), c.a.length = x.length → RS c.a k → RS x m → QS c.b 4000 → k ≤ 4000 → m ≤ 4000 → c.a.length * (k + m + 1) + 1 ≤ 3999 → c.a.length < 1000 → g [cD c, rowD x] = .ok (.val (.bl (keptC c x)))
theorem ok_keeps (h53 : Has G 53 PKept) (h36 : Has G 36 PProd) : PKeeps (d_keeps.fn.run G sub fuel) := by
  obtain ⟨k1, i1, j1⟩ := h53
  obtain ⟨k2, i2, _, j2⟩ := h36
  intro c x k m h ha hx hb hk hm hs hl
  rw [d_run rfl]
  have e2 := j2 c.a x k m h ha hx hk hm hs hl
  have e1 := j1 (dot c.a x) c.le c.b ((QS_dot ha hx).mono (by omega)) hb
  have at2 : ∀ p q r : D, atI [p, q, r] 2 = some r := fun p q r => rfl
  simp [d_keeps, b_keeps, startS, cD, i1, i2, e1, e2, at2, keptC]
def PPos (g : List D → M R) : Prop := ∀ (x : List Rat) (w : Int), x.length < 1000 → g [rowD x, .int w] = .ok (.val (.bl (decide ((x.length : Int) = w) && x.all fun q => decide (0 ≤ q.num))))
theorem boolsOfD {α : Type} (f : α → Bool) (xs : List α) : boolsOf (xs.map fun x => D.bl (f x)) = some (xs.map f) := by
  induction xs with
  | nil => rfl
  | cons x r ih => simp only [List.map_cons, boolsOf, ih, Option.map_some]
theorem all_mapD {α : Type} (f : α → Bool) (xs : List α) : bltD .all [.lst (xs.map fun x => D.bl (f x))] = .ok (.val (.bl (xs.all f))) := by
  show (M.ofO (boolsOf _)).bind _ = _
  rw [boolsOfD]
  simp [List.all_map]
theorem sg_nn (n : Int) : (0 ≤ sg n) ↔ 0 ≤ n := by unfold sg; (repeat' split) <;> omega
theorem ok_pos (h13 : Has G 13 PSign) : PPos (d_is_positive.fn.run G sub fuel) := by
  obtain ⟨k, i, j⟩ := h13
  intro x w hl
  rw [d_run rfl]
  have lc : ∀ s1 s2, lcE G sub [2] (.nm 2) none (.cmp .GtE (.call 13 [.var 2]) (.k (.int 0))) [.val (rowD x), s1, s2] (x.map qd) = .ok (x.map fun q => .bl (decide (0 ≤ q.num))) := by
    intro s1 s2
    refine lcE_map fun q hq => ?_
    have e : k [qd q] = .ok (.val (.int (sg q.num))) := j _ _
    have e2 : decide (0 ≤ sg q.num) = decide (0 ≤ q.num) := by rw [decide_eq_decide, sg_nn]
    simp only [lcF, wipe, lcI, asg_nm]
    simp [i, e, e2]
  have al := all_mapD (fun q : Rat => decide (0 ≤ q.num)) x
  have hl2 : x.length ≤ 16777216 := by omega
  by_cases h : (x.length : Int) = w
  · generalize (x.map fun q : Rat => D.bl (decide (0 ≤ q.num))) = bs at *
    generalize (x.all fun q => decide (0 ≤ q.num)) = bb at *
    simp [d_is_positive, b_is_positive, startS, h, hl2, lc, al]
  · simp [d_is_positive, b_is_positive, startS, h]
end
end EV

set_option linter.all false
set_option autoImplicit false
namespace EV
def histQ (w : Nat) (cs : List Cond) (x : List Rat) : Bool := decide (x.length = w) && x.all (fun q => decide (0 ≤ q.num)) && cs.all fun c => keptC c x
/-- a system of small ratios -/
def SysOk (w : Nat) (cs : List Cond) : Prop := w < 30 ∧ cs.length < 1000 ∧ ∀ c ∈ cs, c.a.length = w ∧ RS c.a 10 ∧ QS c.b 400
section
variable {G : Env} {sub : Sub} {fuel : Nat}
def PHist (g : List D → M R) : Prop := ∀ (w : Nat) (cs : List Cond) (x : List Rat), SysOk w cs → RS x 20 → x.length < 40 → g [sysD w cs, rowD x] = .ok (.val (.bl (histQ w cs x)))
theorem ok_hist (h54 : Has G 54 PPos) (h55 : Has G 55 PKeeps) : PHist (d_is_history.fn.run G sub fuel) := by
  obtain ⟨k1, i1, j1⟩ := h54
  obtain ⟨k2, i2, j2⟩ := h55
  intro w cs x hs hx hl
  rw [d_run rfl]
  have e := j1 x (w : Int) (by omega)
  have hw : decide ((x.length : Int) = w) = decide (x.length = w) := by rw [decide_eq_decide]; omega
  rw [hw] at e
  have hd : sysD w cs = .tup [.int w, .tup (cs.map cD)] := rfl
  unfold histQ
  by_cases hp : (decide (x.length = w) && x.all fun q => decide (0 ≤ q.num)) = true
  · rw [hp] at e ⊢
    rw [Bool.true_and]
    have hxw : x.length = w := by
      have := (Bool.and_eq_true _ _ ▸ hp : _ ∧ _).1
      exact of_decide_eq_true this
    have lc : ∀ s0 s2, lcE G sub [2] (.nm 2) none (.call 55 [.var 2, .var 1]) [s0, .val (rowD x), s2] (cs.map cD) = .ok (cs.map fun c => .bl (keptC c x)) := by
      intro s0 s2
      refine lcE_map fun c hc => ?_
      obtain ⟨c1, c2, c3⟩ := hs.2.2 c hc
      have hwl := hs.1
      have b : c.a.length * (10 + 20 + 1) ≤ 30 * 31 := Nat.mul_le_mul_right _ (by omega)
      have e2 := j2 c x 10 20 (by omega) c2 hx (c3.mono (by omega)) (by omega) (by omega) (by omega) (by omega)
      simp [lcF, wipe, lcI, i2, e2]
    have al := all_mapD (fun c : Cond => keptC c x) cs
    have hl2 : cs.length ≤ 16777216 := by have := hs.2.1; omega
    have hcl : (cs.map cD).length ≤ 16777216 := by simpa using hl2
    generalize (cs.map fun c : Cond => D.bl (keptC c x)) = bs at *
    generalize (cs.all fun c => keptC c x) = bb at *
    generalize cs.map cD = cl at *
    rw [hd]
    simp [d_is_history, b_is_history, startS, i1, e, hcl, lc, al]
  · have hp' : (decide (x.length = w) && x.all fun q => decide (0 ≤ q.num)) = false := by simpa using hp
    rw [hp'] at e ⊢
    rw [hd]
    generalize cs.map cD = cl at *
    simp [d_is_history, b_is_history, startS, i1, e]
def PLProd (g : List D → M R) : Prop := ∀ (a x : List Rat), a.length = x.length → RS a 10 → RS x 10 → a.length < 30 → g [rowD a, rowD x] = .ok (.val (qd (dot a x)))
theorem ok_lprod (h21 : Has G 21 fun g => ∀ a b, QS a 900 → QS b 900 → g [qd a, qd b] = .ok (.val (qd (a + b)))) (h31 : Has G 31 fun g => ∀ a b, QS a 900 → QS b 900 → g [qd a, qd b] = .ok (.val (qd (a * b)))) : PLProd (d__law_product.fn.run G sub fuel) := by
  obtain ⟨k1, i1, j1⟩ := h21
  obtain ⟨k2, i2, j2⟩ := h31
  intro a x h ha hx hl
  rw [d_run rfl]
  obtain ⟨s', w1, s3, rfl⟩ := forL_inv (g := asg (.nm 3)) (b := evTs G sub fuel [.iff (.and (.cmp .NotEq (.ix (.ix (.var 0) (.var 3)) (.k (.int 0))) (.k (.int 0))) (.one (.cmp .NotEq (.ix (.ix (.var 1) (.var 3)) (.k (.int 0))) (.k (.int 0))))) [.frz 2, .asg (.nm 2) (.call 21 [.var 2, .call 31 [.ix (.var 0) (.var 3), .ix (.var 1) (.var 3)]])] []])
    (fun i s => ∃ s3, s = [.val (rowD a), .val (rowD x), .val (qd ((List.zipWith (· * ·) a x).take i).sum), s3])
    (rngL 0 a.length) [.val (rowD a), .val (rowD x), .val (qd 0), .emp] ⟨.emp, by rw [List.take_zero, List.sum_nil]⟩
    (by
      rintro i d s hd ⟨s3, rfl⟩
      obtain ⟨rfl, hi⟩ := rngL0_get hd
      refine ⟨_, by simp; rfl, ?_⟩
      have hi' : i < a.length := by omega
      have p1 : a[i]? = some a[i] := List.getElem?_eq_getElem hi'
      have p2 : x[i]? = some x[i] := List.getElem?_eq_getElem (by omega)
      have q1 := ix_row (a := a) (i := (i : Int)) (by omega) (by rw [Int.toNat_natCast]; exact p1)
      have q2 := ix_row (a := x) (i := (i : Int)) (by omega) (by rw [Int.toNat_natCast]; exact p2)
      have b1 := ha _ (List.mem_of_getElem? p1)
      have b2 := hx _ (List.mem_of_getElem? p2)
      have hz : (List.zipWith (· * ·) a x)[i]? = some (a[i] * x[i]) := by
        rw [List.getElem?_zipWith, p1, p2]
      have hsum : ((List.zipWith (· * ·) a x).take (i + 1)).sum = ((List.zipWith (· * ·) a x).take i).sum + a[i] * x[i] := by
        rw [List.take_add_one, hz, List.sum_append]
        simp [Rat.add_zero]
      have hsz : QS ((List.zipWith (· * ·) a x).take i).sum 631 := by
        refine (QS_sum (m := 20) fun q hq => (RS_zip ha hx q (List.mem_of_mem_take hq)).mono (by omega)).mono ?_
        rw [List.length_take]
        have := Nat.mul_le_mul_right 21 (show min i (List.zipWith (· * ·) a x).length ≤ 30 by omega)
        omega
      have f1 := j2 _ _ (b1.mono (by omega)) (b2.mono (by omega))
      have f2 := j1 ((List.zipWith (· * ·) a x).take i).sum (a[i] * x[i]) (hsz.mono (by omega)) ((QS.mul b1 b2).mono (by omega))
      refine ⟨_, ?_, .val (.int (i : Int)), rfl⟩
      rw [hsum]
      generalize ((List.zipWith (· * ·) a x).take i).sum = t at *
      generalize a[i] = ai at *
      generalize x[i] = xi at *
      by_cases h1 : ai = 0
      · have z : t + ai * xi = t := by rw [h1]; grind
        have h1' : (ai = 0) = True := eq_true h1
        rw [z]
        simp [q1, q2, h1']
      · by_cases h2 : xi = 0
        · have z : t + ai * xi = t := by rw [h2]; grind
          have h2' : (xi = 0) = True := eq_true h2
          rw [z]
          simp [q1, q2, h1, h2']
        · simp [i1, i2, q1, q2, f1, f2, h1, h2])
  have hd : ((List.zipWith (· * ·) a x).take (rngL 0 (a.length : Int)).length).sum = dot a x := by
    unfold dot
    rw [List.take_of_length_le (by rw [rngL_len, List.length_zipWith]; omega)]
  rw [hd] at w1
  have hsm : small (a.length : Int) = true := by unfold small; simp; omega
  have w2 : loopF G sub fuel (.nm 3) [.iff (.and (.cmp .NotEq (.ix (.ix (.var 0) (.var 3)) (.k (.int 0))) (.k (.int 0))) (.one (.cmp .NotEq (.ix (.ix (.var 1) (.var 3)) (.k (.int 0))) (.k (.int 0))))) [.frz 2, .asg (.nm 2) (.call 21 [.var 2, .call 31 [.ix (.var 0) (.var 3), .ix (.var 1) (.var 3)]])] []] (rngL 0 (a.length : Int)) [.val (rowD a), .val (rowD x), .val (.tup [.int 0, .int 1]), .emp] = .nx [.val (rowD a), .val (rowD x), .val (qd (dot a x)), s3] := w1
  simp [d__law_product, b__law_product, startS, hsm, w2]
end
end EV

set_option linter.all false
set_option autoImplicit false
namespace EV
def b__law_keeps : List T := [
  .asg (.nm 2) (.call 56 [.ix (.var 0) (.k (.int 0)), .var 1]),
  .frz 2,
  .ret (.or (.cmp .Eq (.var 2) (.ix (.var 0) (.k (.int 2)))) (.one (.and (.cmp .Eq (.ix (.var 0) (.k (.int 1))) (.k (.str "<="))) (.one (.call 57 [.var 2, .ix (.var 0) (.k (.int 2))])))))]
def d__law_keeps : Def := ⟨58, "_law_keeps", ["_law_condition", "_law_row_here"], ["_law_condition", "_law_row_here", "_law_total"], b__law_keeps⟩
def b__law_is_history : List T := [
  .iff (.or (.cmp .NotEq (.blt .len [.var 1]) (.ix (.var 0) (.k (.int 0)))) (.one (.not (.blt .all [.lc [3] (.nm 3) (.seq (.var 1)) none (.cmp .GtE (.ix (.var 3) (.k (.int 0))) (.k (.int 0)))])))) [.ret (.k (.bl false))] [],
  .ret (.blt .all [.lc [2] (.nm 2) (.seq (.ix (.var 0) (.k (.int 1)))) none (.call 58 [.var 2, .var 1])])]
def d__law_is_history : Def := ⟨61, "_law_is_history", ["_law_system_here", "_law_row_here"], ["_law_system_here", "_law_row_here", "_law_condition", "_law_part_here"], b__law_is_history⟩
def b__law_drawn : List T := [
  .asg (.nm 3) (.lst []),
  .forr (.nm 4) (.rng [.var 2]) [.asg (.nm 5) (.ix (.var 0) (.op .Mod (.blt .int [.op .Add (.var 1) (.op .Mult (.k (.int 7)) (.var 4))]) (.blt .len [.var 0]))), .app 3 (.call 14 [.ix (.lst [.op .Mod (.var 5) (.k (.int 5)), .op .Sub (.op .Mod (.var 5) (.k (.int 9))) (.k (.int 1))]) (.blt .int [.cmp .Eq (.op .Mod (.op .FloorDiv (.var 5) (.k (.int 9))) (.k (.int 5))) (.k (.int 0))]), .op .Add (.k (.int 1)) (.op .Mod (.op .FloorDiv (.var 5) (.k (.int 50))) (.k (.int 3)))])],
  .ret (.blt .tuple [.var 3])]
def d__law_drawn : Def := ⟨59, "_law_drawn", ["_law_numbers_here", "_law_at", "_law_width"], ["_law_numbers_here", "_law_at", "_law_width", "_law_row_here", "_law_k", "_law_number"], b__law_drawn⟩
def b_law : List T := [
  .asg (.nm 1) (.call 50 [.var 0, .k (.int 140)]),
  .frz 1,
  .asg (.nm 2) (.call 51 [.var 1, .op .Add (.k (.int 1)) (.op .Mod (.ix (.var 1) (.k (.int 0))) (.k (.int 6))), .op .Mod (.ix (.var 1) (.k (.int 1))) (.k (.int 7)), .k (.int 3)]),
  .frz 2,
  .asg (.tup [.nm 4, .nm 5]) (.var 2),
  .forr (.nm 3) (.rng [.k (.int 4)]) [.frz 1, .asg (.nm 6) (.call 59 [.var 1, .op .Add (.k (.int 60)) (.op .Mult (.k (.int 11)) (.var 3)), .var 4]), .iff (.and (.cmp .Gt (.blt .len [.var 5]) (.k (.int 0))) (.one (.cmp .Gt (.var 3) (.k (.int 1))))) [.asg (.nm 9) (.op .Mod (.ix (.var 1) (.op .Add (.k (.int 2)) (.var 3))) (.blt .len [.var 5])), .frz 6, .asg (.nm 10) (.call 56 [.ix (.ix (.var 5) (.var 9)) (.k (.int 0)), .var 6]), .frz 10, .asg (.nm 11) (.call 21 [.var 10, .call 14 [.op .Sub (.op .Mod (.ix (.var 1) (.op .Add (.k (.int 6)) (.var 3))) (.k (.int 3))) (.k (.int 1)), .op .Add (.k (.int 1)) (.op .Mod (.op .FloorDiv (.ix (.var 1) (.op .Add (.k (.int 6)) (.var 3))) (.k (.int 3))) (.k (.int 1000)))]]), .frz 11, .asg (.nm 2) (.tup [.var 4, .op .Add (.op .Add (.sl (.var 5) none (some (.var 9))) (.tup [.tup [.ix (.ix (.var 5) (.var 9)) (.k (.int 0)), .ix (.ix (.var 5) (.var 9)) (.k (.int 1)), .var 11]])) (.sl (.var 5) (some (.op .Add (.var 9) (.k (.int 1)))) none)])] [], .forr (.nm 7) (.seq (.ix (.var 2) (.k (.int 1)))) [.frz 6, .asg (.nm 8) (.call 55 [.var 7, .var 6]), .frz 6, .iff (.or (.not (.isi (.var 8) .bool)) (.one (.cmp .NotEq (.var 8) (.call 58 [.var 7, .var 6])))) [.ret (.k (.bl false))] []], .frz 2, .frz 6, .asg (.nm 8) (.call 60 [.var 2, .var 6]), .frz 2, .frz 6, .iff (.or (.not (.isi (.var 8) .bool)) (.one (.cmp .NotEq (.var 8) (.call 61 [.var 2, .var 6])))) [.ret (.k (.bl false))] [], .frz 2, .iff (.or (.cmp .IsNot (.call 60 [.var 2, .op .Add (.var 6) (.tup [.tup [.k (.int 0), .k (.int 1)]])]) (.k (.bl false))) (.one (.cmp .IsNot (.call 60 [.var 2, .sl (.var 6) (some (.k (.int 1))) none]) (.k (.bl false))))) [.ret (.k (.bl false))] []],
  .ret (.and (.cmp .Is (.call 60 [.tup [.var 4, .tup []], .op .Mult (.tup [.tup [.k (.int 0), .k (.int 1)]]) (.var 4)]) (.k (.bl true))) (.one (.cmp .Is (.call 60 [.tup [.var 4, .tup []], .op .Add (.tup [.tup [.neg (.k (.int 1)), .k (.int 9)]]) (.op .Mult (.tup [.tup [.k (.int 0), .k (.int 1)]]) (.op .Sub (.var 4) (.k (.int 1))))]) (.k (.bl false)))))]
def d_law : Def := ⟨280, "law", ["_law_script"], ["_law_script", "_law_numbers_here", "_law_system_here", "_law_k", "_law_width", "_law_conditions", "_law_row_here", "_law_condition", "_law_told", "_law_at", "_law_total", "_law_near"], b_law⟩
end EV

set_option linter.all false
set_option autoImplicit false
namespace EV
section
variable {G : Env} {sub : Sub} {fuel : Nat}
theorem rel_deep2 (le t : Bool) : deepM (.str (relS le)) (.str "<=") t = .ok (.val (.bl t)) := rel_deep le t
def PLKeeps (g : List D → M R) : Prop := ∀ (c : Cond) (x : List Rat), c.a.length = x.length → RS c.a 10 → RS x 10 → QS c.b 900 → c.a.length < 30 → g [cD c, rowD x] = .ok (.val (.bl (keptC c x)))
theorem ok_lkeeps (h56 : Has G 56 PLProd) (h57 : Has G 57 PLess) : PLKeeps (d__law_keeps.fn.run G sub fuel) := by
  obtain ⟨k1, i1, j1⟩ := h56
  obtain ⟨k2, i2, j2⟩ := h57
  intro c x h ha hx hb hl
  rw [d_run rfl]
  have e1 := j1 c.a x h ha hx hl
  have hb2 : c.a.length * (10 + 10 + 1) ≤ 30 * 21 := Nat.mul_le_mul_right _ (by omega)
  have e2 := j2 (dot c.a x) c.b ((QS_dot ha hx).mono (by omega)) (hb.mono (by omega))
  have at2 : ∀ p q r : D, atI [p, q, r] 2 = some r := fun p q r => rfl
  unfold keptC keptQ
  generalize dot c.a x = t at *
  by_cases h1 : t = c.b
  · have h1' : (t = c.b) = True := eq_true h1
    simp [d__law_keeps, b__law_keeps, startS, cD, i1, e1, at2, h1']
  · cases hle : c.le
    · have r1 := rel_deep false
      have r2 := rel_eq false
      simp [d__law_keeps, b__law_keeps, startS, cD, i1, e1, at2, h1, hle, r1, r2]
    · have r1 := rel_deep true
      have r2 := rel_eq true
      simp [d__law_keeps, b__law_keeps, startS, cD, i1, e1, at2, h1, hle, r1, r2, i2, e2]
def PLHist (g : List D → M R) : Prop := ∀ (w : Nat) (cs : List Cond) (x : List Rat), SysOk w cs → RS x 10 → x.length < 40 → g [sysD w cs, rowD x] = .ok (.val (.bl (histQ w cs x)))
theorem ok_lhist (h58 : Has G 58 PLKeeps) : PLHist (d__law_is_history.fn.run G sub fuel) := by
  obtain ⟨k1, i1, j1⟩ := h58
  intro w cs x hs hx hl
  rw [d_run rfl]
  have hd : sysD w cs = .tup [.int w, .tup (cs.map cD)] := rfl
  have lc1 : ∀ s0 s2 s3, lcE G sub [3] (.nm 3) none (.cmp .GtE (.ix (.var 3) (.k (.int 0))) (.k (.int 0))) [s0, .val (rowD x), s2, s3] (x.map qd) = .ok (x.map fun q => .bl (decide (0 ≤ q.num))) := by
    intro s0 s2 s3
    refine lcE_map fun q hq => ?_
    simp [lcF, wipe, lcI]
  have al1 := all_mapD (fun q : Rat => decide (0 ≤ q.num)) x
  have hlx : x.length ≤ 16777216 := by omega
  unfold histQ
  by_cases h1 : x.length = w
  · have h1' : (x.length : Int) = (w : Int) := by omega
    have hdec : decide (x.length = w) = true := by simp [h1]
    rw [hdec, Bool.true_and]
    cases hp : (x.all fun q => decide (0 ≤ q.num))
    · rw [hp] at al1
      generalize (x.map fun q : Rat => D.bl (decide (0 ≤ q.num))) = bs at *
      rw [hd]
      generalize cs.map cD = cl at *
      simp [d__law_is_history, b__law_is_history, startS, h1', hlx, lc1, al1]
    · rw [hp] at al1
      have lc : ∀ s0 s2 s3, lcE G sub [2] (.nm 2) none (.call 58 [.var 2, .var 1]) [s0, .val (rowD x), s2, s3] (cs.map cD) = .ok (cs.map fun c => .bl (keptC c x)) := by
        intro s0 s2 s3
        refine lcE_map fun c hc => ?_
        obtain ⟨c1, c2, c3⟩ := hs.2.2 c hc
        have hwl := hs.1
        have e2 := j1 c x (by omega) c2 hx (c3.mono (by omega)) (by omega)
        simp [lcF, wipe, lcI, i1, e2]
      have al := all_mapD (fun c : Cond => keptC c x) cs
      have hcl : (cs.map cD).length ≤ 16777216 := by have := hs.2.1; rw [List.length_map]; omega
      generalize (x.map fun q : Rat => D.bl (decide (0 ≤ q.num))) = bs at *
      generalize (cs.map fun c : Cond => D.bl (keptC c x)) = bs2 at *
      generalize (cs.all fun c => keptC c x) = bb at *
      rw [hd]
      generalize cs.map cD = cl at *
      simp [d__law_is_history, b__law_is_history, startS, h1', hlx, lc1, al1, hcl, lc, al]
  · have h1' : ¬ (x.length : Int) = (w : Int) := by omega
    have hdec : decide (x.length = w) = false := by simp [h1]
    rw [hdec, Bool.false_and]
    rw [hd]
    generalize cs.map cD = cl at *
    simp [d__law_is_history, b__law_is_history, startS, h1', h1]
def drawnQ (n : Int) : Rat := Rat.divInt (if n / 9 % 5 = 0 then n % 9 - 1 else n % 5) (1 + n / 50 % 3)
theorem drawnQ_sz (n : Int) : QS (drawnQ n) 5 := by
  unfold drawnQ
  exact QS.divInt (by omega) (by unfold Sz; split <;> omega) (by unfold Sz; omega)
def drawnS (zs : List Int) (i : Int) (w : Nat) : List Rat := (List.range w).map fun k : Nat => drawnQ (pkS zs (i + 7 * (k : Int)))
theorem drawnS_len (zs : List Int) (i : Int) (w : Nat) : (drawnS zs i w).length = w := by simp [drawnS]
theorem drawnS_sz (zs : List Int) (i : Int) (w : Nat) : RS (drawnS zs i w) 5 := by
  intro q hq
  obtain ⟨p, hp, rfl⟩ := List.mem_map.mp hq
  exact drawnQ_sz _
theorem drawnS_succ (zs : List Int) (i : Int) (w : Nat) : drawnS zs i (w + 1) = drawnS zs i w ++ [drawnQ (pkS zs (i + 7 * (w : Int)))] := by
  unfold drawnS; rw [List.range_succ, List.map_append]; rfl
end
end EV

set_option linter.all false
set_option autoImplicit false
namespace EV
section
variable {G : Env} {sub : Sub} {fuel : Nat}
def PDrawn (g : List D → M R) : Prop := ∀ (zs : List Int) (n : Nat) (i : Int) (w : Nat), NumsS zs n → 1 ≤ n → w ≤ 30 → g [.lst (zs.map .int), .int i, .int w] = .ok (.val (rowD (drawnS zs i w)))
theorem ok_drawn (h14 : Has G 14 PLRatio2) : PDrawn (d__law_drawn.fn.run G sub fuel) := by
  obtain ⟨k1, i1, j1⟩ := h14
  intro zs n i w hz hn hw
  rw [d_run rfl]
  obtain ⟨s', w1, s4, s5, rfl⟩ := forL_inv (g := asg (.nm 4)) (b := evTs G sub fuel [.asg (.nm 5) (.ix (.var 0) (.op .Mod (.blt .int [.op .Add (.var 1) (.op .Mult (.k (.int 7)) (.var 4))]) (.blt .len [.var 0]))), .app 3 (.call 14 [.ix (.lst [.op .Mod (.var 5) (.k (.int 5)), .op .Sub (.op .Mod (.var 5) (.k (.int 9))) (.k (.int 1))]) (.blt .int [.cmp .Eq (.op .Mod (.op .FloorDiv (.var 5) (.k (.int 9))) (.k (.int 5))) (.k (.int 0))]), .op .Add (.k (.int 1)) (.op .Mod (.op .FloorDiv (.var 5) (.k (.int 50))) (.k (.int 3)))])])
    (fun j s => ∃ s4 s5, s = [.val (.lst (zs.map .int)), .val (.int i), .val (.int w), .own ((drawnS zs i j).map qd), s4, s5])
    (rngL 0 (w : Int)) [.val (.lst (zs.map .int)), .val (.int i), .val (.int w), .own [], .emp, .emp] ⟨.emp, .emp, rfl⟩
    (by
      rintro k d s hd ⟨s4, s5, rfl⟩
      obtain ⟨rfl, hk⟩ := rngL0_get hd
      refine ⟨_, by simp; rfl, ?_⟩
      have m1 : opD .Mult (.int 7) (.int (k : Int)) = .ok (.val (.int (7 * (k : Int)))) := opD_mulS (k := 10) (m := 10) (by unfold Sz; decide) (Sz.of_lt (n := 100) (by omega) (by omega) (by omega)) (by omega)
      obtain ⟨a1, a2, a3, a4⟩ := pkS_at hz hn (i + 7 * (k : Int))
      have dv9 : ∀ c : Int, opD .FloorDiv (.int c) (.int 9) = .ok (.val (.int (c / 9))) := fun c => opD_div (by omega) (by decide +kernel)
      have dv50 : ∀ c : Int, opD .FloorDiv (.int c) (.int 50) = .ok (.val (.int (c / 50))) := fun c => opD_div (by omega) (by decide +kernel)
      have hl : (drawnS zs i k).length < 16777216 := by rw [drawnS_len]; omega
      refine ⟨_, ?_, .val (.int (k : Int)), .val (.int (pkS zs (i + 7 * (k : Int)))), rfl⟩
      rw [drawnS_succ, drawnQ]
      generalize pkS zs (i + 7 * (k : Int)) = p at *
      generalize drawnS zs i k = r at *
      by_cases h : p / 9 % 5 = 0
      · rw [if_pos h]
        have e := j1 (p % 9 - 1) (1 + p / 50 % 3) (by omega) (Sz.mono (k := 5) (by unfold Sz; omega) (by omega))
        generalize Rat.divInt (p % 9 - 1) (1 + p / 50 % 3) = q at *
        simp [i1, m1, a1, a2, opD_mod, dv9, dv50, h, e, hl]
      · rw [if_neg h]
        have e := j1 (p % 5) (1 + p / 50 % 3) (by omega) (Sz.mono (k := 5) (by unfold Sz; omega) (by omega))
        generalize Rat.divInt (p % 5) (1 + p / 50 % 3) = q at *
        simp [i1, m1, a1, a2, opD_mod, dv9, dv50, h, e, hl])
  have hsm : small (w : Int) = true := by unfold small; simp; omega
  rw [rngL_len, show ((w : Int) - 0).toNat = w by omega] at w1
  generalize drawnS zs i w = r at *
  simp [-blt_tuple_lst, d__law_drawn, b__law_drawn, startS, hsm, loopF, w1]
end
end EV

set_option linter.all false
set_option autoImplicit false
namespace EV
theorem raw_at {zs : List Int} {n : Nat} (hz : NumsS zs n) (i : Int) (h0 : 0 ≤ i) (h1 : i < n) : ∃ x, atI (zs.map D.int) i = some (.int x) ∧ 0 ≤ x ∧ x < 2147483648 := by
  have hl := hz.1
  obtain ⟨a1, a2, a3⟩ := pkS_at hz (by omega) i
  rw [Int.emod_eq_of_lt h0 (by omega)] at a2
  exact ⟨_, a2, a3⟩
theorem cond_at {cs : List Cond} {i : Int} (h0 : 0 ≤ i) (h1 : i < cs.length) : ∃ c, c ∈ cs ∧ atI (cs.map cD) i = some (cD c) := by
  have hi : i.toNat < cs.length := by omega
  refine ⟨cs[i.toNat], List.getElem_mem _, ?_⟩
  rw [atI_map _ _ _ h0 h1, List.getElem?_eq_getElem hi]; rfl
theorem condS_ok (zs : List Int) (w : Nat) (low : Int) (k : Nat) (h0 : 0 ≤ low) (h1 : low ≤ 100) : (condS zs w low k).a.length = w ∧ RS (condS zs w low k).a 5 ∧ QS (condS zs w low k).b 8 :=
  ⟨rowS_len _ _ _, rowS_sz _ _ _, boundQ_sz _ _ h0 h1⟩
theorem sys_ok (zs : List Int) (w c : Nat) (low : Int) (h0 : 0 ≤ low) (h1 : low ≤ 100) (hw : w < 30) (hc : c < 100) : SysOk w ((List.range c).map (condS zs w low)) := by
  refine ⟨hw, by simp; omega, ?_⟩
  intro q hq
  obtain ⟨k, _, rfl⟩ := List.mem_map.mp hq
  obtain ⟨a1, a2, a3⟩ := condS_ok zs w low k h0 h1
  exact ⟨a1, a2.mono (by omega), a3.mono (by omega)⟩
theorem cut_take {α : Type} (xs : List α) (i : Int) (h0 : 0 ≤ i) (h1 : i ≤ xs.length) : cut xs none (some i) = xs.take i.toNat := by
  unfold cut
  rw [show sIx xs.length 0 none = 0 from rfl, List.drop_zero, Nat.sub_zero]
  have : sIx xs.length xs.length (some i) = i.toNat := by unfold sIx; simp only; rw [if_neg (by omega)]; omega
  rw [this]
theorem cut_drop {α : Type} (xs : List α) (i : Int) (h0 : 0 ≤ i) (h1 : i ≤ xs.length) : cut xs (some i) none = xs.drop i.toNat := by
  unfold cut
  have : sIx xs.length 0 (some i) = i.toNat := by unfold sIx; simp only; rw [if_neg (by omega)]; omega
  rw [this, show sIx xs.length xs.length none = xs.length from rfl]
  exact List.take_of_length_le (by rw [List.length_drop]; omega)
theorem opD_addT (a b : List D) (h : a.length + b.length ≤ 16777216) : opD .Add (.tup a) (.tup b) = .ok (.val (.tup (a ++ b))) := by
  simp only [opD, guardM]
  rw [if_pos (by simpa using h)]
theorem opD_mulT (a : List D) (k : Int) (h0 : 0 ≤ k) (h1 : k ≤ 1000) (h2 : a.length ≤ 1000) (h3 : a.length ≠ 0) : opD .Mult (.tup a) (.int k) = .ok (.val (.tup (List.replicate k.toNat a).flatten)) := by
  simp only [opD, guardM]
  rw [if_pos (by
    have h4 : ¬ a = [] := fun e => h3 (by rw [e]; rfl)
    simp [h0, h1, h2, h4])]
end EV

set_option linter.all false
set_option autoImplicit false
namespace EV
section
variable {G : Env} {sub : Sub} {fuel : Nat}
/-- the loop over a system's conditions -/
theorem conds_loop {k55 k58 : List D → M R} (i55 : G 55 = some k55) (i58 : G 58 = some k58) {w : Nat} {cs : List Cond} {x : List Rat} (h55 : ∀ c ∈ cs, k55 [cD c, rowD x] = .ok (.val (.bl (keptC c x)))) (h58 : ∀ c ∈ cs, k58 [cD c, rowD x] = .ok (.val (.bl (keptC c x))))
    (s0 s1 s2 s3 s4 s5 s7 s8 s9 s10 s11 : S) : ∃ s7' s8', loopF G sub fuel (.nm 7) [.frz 6, .asg (.nm 8) (.call 55 [.var 7, .var 6]), .frz 6, .iff (.or (.not (.isi (.var 8) .bool)) (.one (.cmp .NotEq (.var 8) (.call 58 [.var 7, .var 6])))) [.ret (.k (.bl false))] []] (cs.map cD) [s0, s1, s2, s3, s4, s5, .val (rowD x), s7, s8, s9, s10, s11] = .nx [s0, s1, s2, s3, s4, s5, .val (rowD x), s7', s8', s9, s10, s11] := by
  obtain ⟨s', w1, s7', s8', rfl⟩ := forL_inv (g := asg (.nm 7)) (b := evTs G sub fuel [.frz 6, .asg (.nm 8) (.call 55 [.var 7, .var 6]), .frz 6, .iff (.or (.not (.isi (.var 8) .bool)) (.one (.cmp .NotEq (.var 8) (.call 58 [.var 7, .var 6])))) [.ret (.k (.bl false))] []])
    (fun i s => ∃ s7 s8, s = [s0, s1, s2, s3, s4, s5, .val (rowD x), s7, s8, s9, s10, s11]) (cs.map cD) [s0, s1, s2, s3, s4, s5, .val (rowD x), s7, s8, s9, s10, s11] ⟨_, _, rfl⟩
    (by
      rintro i d s hd ⟨s7, s8, rfl⟩
      rw [List.getElem?_map] at hd
      obtain ⟨c, hc, rfl⟩ := Option.map_eq_some_iff.mp hd
      have hm := List.mem_of_getElem? hc
      refine ⟨_, by simp; rfl, _, ?_, .val (cD c), .val (.bl (keptC c x)), rfl⟩
      simp [i55, i58, h55 c hm, h58 c hm])
  exact ⟨s7', s8', w1⟩
end
end EV

set_option linter.all false
set_option autoImplicit false
namespace EV
theorem hist_len {w : Nat} {cs : List Cond} {x : List Rat} (h : x.length ≠ w) : histQ w cs x = false := by
  unfold histQ; simp [h]
theorem rowD_snoc (x : List Rat) (q : Rat) (h : x.length < 1000) : opD .Add (rowD x) (.tup [qd q]) = .ok (.val (rowD (x ++ [q]))) := by
  unfold rowD
  rw [opD_addT _ _ (by simp; omega), List.map_append]; rfl
theorem rowD_tail (x : List Rat) (h : 1 ≤ x.length) : slD (rowD x) (some 1) none = .ok (.val (rowD (x.drop 1))) := by
  unfold rowD
  rw [sl_tup, cut_drop _ _ (by omega) (by simp; omega), ← List.map_drop]; rfl
theorem rowD_rep (w : Int) (h0 : 0 ≤ w) (h1 : w ≤ 1000) : opD .Mult (.tup [qd 0]) (.int w) = .ok (.val (rowD (List.replicate w.toNat 0))) := by
  rw [opD_mulT _ _ h0 h1 (by simp) (by simp)]
  unfold rowD
  rw [List.map_replicate]
  congr 3
  induction w.toNat with
  | zero => rfl
  | succ n ih => rw [List.replicate_succ, List.flatten_cons, ih]; rfl
end EV

set_option linter.all false
set_option autoImplicit false
namespace EV
section
variable {G : Env} {sub : Sub} {fuel : Nat}
theorem isnot_bb (a b : Bool) : cmpD .IsNot (.bl a) (.bl b) = .ok (.val (.bl (!decide (a = b)))) := rfl
theorem tail11 {k55 k58 k60 k61 : List D → M R} (i55 : G 55 = some k55) (i58 : G 58 = some k58) (i60 : G 60 = some k60) (i61 : G 61 = some k61) (j55 : PKeeps k55) (j58 : PLKeeps k58) (j60 : PHist k60) (j61 : PLHist k61)
    {w : Nat} {cs : List Cond} {x : List Rat} (hs : SysOk w cs) (hx : RS x 5) (hxl : x.length = w) (hw : 1 ≤ w ∧ w ≤ 10) (s0 s1 s3 s4 s5 s7 s8 s9 s10 s11 : S) :
    ∃ s7' s8', evTs G sub fuel [.forr (.nm 7) (.seq (.ix (.var 2) (.k (.int 1)))) [.frz 6, .asg (.nm 8) (.call 55 [.var 7, .var 6]), .frz 6, .iff (.or (.not (.isi (.var 8) .bool)) (.one (.cmp .NotEq (.var 8) (.call 58 [.var 7, .var 6])))) [.ret (.k (.bl false))] []], .frz 2, .frz 6, .asg (.nm 8) (.call 60 [.var 2, .var 6]), .frz 2, .frz 6, .iff (.or (.not (.isi (.var 8) .bool)) (.one (.cmp .NotEq (.var 8) (.call 61 [.var 2, .var 6])))) [.ret (.k (.bl false))] [], .frz 2, .iff (.or (.cmp .IsNot (.call 60 [.var 2, .op .Add (.var 6) (.tup [.tup [.k (.int 0), .k (.int 1)]])]) (.k (.bl false))) (.one (.cmp .IsNot (.call 60 [.var 2, .sl (.var 6) (some (.k (.int 1))) none]) (.k (.bl false))))) [.ret (.k (.bl false))] []] [s0, s1, .val (.tup [.int w, .tup (cs.map cD)]), s3, s4, s5, .val (rowD x), s7, s8, s9, s10, s11] = .nx [s0, s1, .val (.tup [.int w, .tup (cs.map cD)]), s3, s4, s5, .val (rowD x), s7', s8', s9, s10, s11] := by
  have h1 : ∀ q ∈ cs, k55 [cD q, rowD x] = .ok (.val (.bl (keptC q x))) := by
    intro q hq
    obtain ⟨p1, p2, p3⟩ := hs.2.2 q hq
    have b : q.a.length * (10 + 5 + 1) ≤ 10 * 16 := Nat.mul_le_mul_right _ (by omega)
    exact j55 q x 10 5 (by omega) p2 hx (p3.mono (by omega)) (by omega) (by omega) (by omega) (by omega)
  have h2 : ∀ q ∈ cs, k58 [cD q, rowD x] = .ok (.val (.bl (keptC q x))) := by
    intro q hq
    obtain ⟨p1, p2, p3⟩ := hs.2.2 q hq
    exact j58 q x (by omega) p2 (hx.mono (by omega)) (p3.mono (by omega)) (by omega)
  obtain ⟨s7', s8', lp⟩ := conds_loop (sub := sub) (fuel := fuel) i55 i58 h1 h2 s0 s1 (.val (.tup [.int w, .tup (cs.map cD)])) s3 s4 s5 s7 s8 s9 s10 s11 (w := w)
  have e1 : k60 [.tup [.int w, .tup (cs.map cD)], rowD x] = .ok (.val (.bl (histQ w cs x))) := j60 w cs x hs (hx.mono (by omega)) (by omega)
  have e2 : k61 [.tup [.int w, .tup (cs.map cD)], rowD x] = .ok (.val (.bl (histQ w cs x))) := j61 w cs x hs (hx.mono (by omega)) (by omega)
  have r1 : RS (x ++ [0]) 20 := by
    intro q hq
    rcases List.mem_append.mp hq with hq | hq
    · exact (hx q hq).mono (by omega)
    · rw [List.mem_singleton] at hq; subst hq; exact QS.zero.mono (by omega)
  have r2 : RS (x.drop 1) 20 := fun q hq => (hx q (List.mem_of_mem_drop hq)).mono (by omega)
  have e3 : k60 [.tup [.int w, .tup (cs.map cD)], rowD (x ++ [0])] = .ok (.val (.bl false)) := by
    have := j60 w cs (x ++ [0]) hs r1 (by simp; omega)
    rw [hist_len (by simp; omega)] at this; exact this
  have e4 : k60 [.tup [.int w, .tup (cs.map cD)], rowD (x.drop 1)] = .ok (.val (.bl false)) := by
    have := j60 w cs (x.drop 1) hs r2 (by simp; omega)
    rw [hist_len (by simp; omega)] at this; exact this
  have a1 := rowD_snoc x 0 (by omega)
  rw [qd_zero] at a1
  have a2 := rowD_tail x (by omega)
  refine ⟨s7', .val (.bl (histQ w cs x)), ?_⟩
  generalize histQ w cs x = hb at *
  generalize cs.map cD = cl at *
  generalize rowD (x ++ [0]) = rx0 at *
  generalize rowD (x.drop 1) = rx1 at *
  simp [lp, i60, e1, i61, e2, a1, a2, e3, e4, isnot_bb]
end
end EV

set_option linter.all false
set_option autoImplicit false
namespace EV
section
variable {G : Env} {sub : Sub} {fuel : Nat}
theorem evTs_append (a b : List T) (ss : List S) : evTs G sub fuel (a ++ b) ss = (evTs G sub fuel a ss).seq (evTs G sub fuel b) := by
  induction a generalizing ss with
  | nil => simp
  | cons t ts ih =>
    rw [List.cons_append, evTs_cons, evTs_cons]
    cases evT G sub fuel t ss with
    | nx s => rw [seq_nx, seq_nx, ih]
    | _ => rfl
theorem head11 {k14 k21 k56 k59 : List D → M R} (i14 : G 14 = some k14) (i21 : G 21 = some k21) (i56 : G 56 = some k56) (i59 : G 59 = some k59) (j14 : PLRatio2 k14) (j21 : ∀ a b, QS a 900 → QS b 900 → k21 [qd a, qd b] = .ok (.val (qd (a + b)))) (j56 : PLProd k56) (j59 : PDrawn k59)
    {w k : Nat} {cs cs' : List Cond} {zs : List Int} (hz : NumsS zs 140) (hs : SysOk w cs) (h8 : ∀ c ∈ cs, RS c.a 5) (hs' : SysOk w cs') (hw : 1 ≤ w ∧ w ≤ 10) (hk : k < 4) (s0 s1 s6 s7 s8 s9 s10 s11 : S) (hs1 : s1 = .own (zs.map .int) ∨ s1 = .val (.lst (zs.map .int))) :
    ∃ (x : List Rat) (cs'' : List Cond) (s9' s10' s11' : S), RS x 5 ∧ x.length = w ∧ SysOk w cs'' ∧ evTs G sub fuel [.frz 1, .asg (.nm 6) (.call 59 [.var 1, .op .Add (.k (.int 60)) (.op .Mult (.k (.int 11)) (.var 3)), .var 4]), .iff (.and (.cmp .Gt (.blt .len [.var 5]) (.k (.int 0))) (.one (.cmp .Gt (.var 3) (.k (.int 1))))) [.asg (.nm 9) (.op .Mod (.ix (.var 1) (.op .Add (.k (.int 2)) (.var 3))) (.blt .len [.var 5])), .frz 6, .asg (.nm 10) (.call 56 [.ix (.ix (.var 5) (.var 9)) (.k (.int 0)), .var 6]), .frz 10, .asg (.nm 11) (.call 21 [.var 10, .call 14 [.op .Sub (.op .Mod (.ix (.var 1) (.op .Add (.k (.int 6)) (.var 3))) (.k (.int 3))) (.k (.int 1)), .op .Add (.k (.int 1)) (.op .Mod (.op .FloorDiv (.ix (.var 1) (.op .Add (.k (.int 6)) (.var 3))) (.k (.int 3))) (.k (.int 1000)))]]), .frz 11, .asg (.nm 2) (.tup [.var 4, .op .Add (.op .Add (.sl (.var 5) none (some (.var 9))) (.tup [.tup [.ix (.ix (.var 5) (.var 9)) (.k (.int 0)), .ix (.ix (.var 5) (.var 9)) (.k (.int 1)), .var 11]])) (.sl (.var 5) (some (.op .Add (.var 9) (.k (.int 1)))) none)])] []] [s0, s1, .val (.tup [.int w, .tup (cs'.map cD)]), .val (.int (k : Int)), .val (.int w), .val (.tup (cs.map cD)), s6, s7, s8, s9, s10, s11] = .nx [s0, .val (.lst (zs.map .int)), .val (.tup [.int w, .tup (cs''.map cD)]), .val (.int (k : Int)), .val (.int w), .val (.tup (cs.map cD)), .val (rowD x), s7, s8, s9', s10', s11'] := by
  have m1 : opD .Mult (.int 11) (.int (k : Int)) = .ok (.val (.int (11 * (k : Int)))) := opD_mulS (k := 10) (m := 10) (by unfold Sz; decide) (Sz.of_lt (n := 100) (by omega) (by omega) (by omega)) (by omega)
  have e59 := j59 zs 140 (60 + 11 * (k : Int)) w hz (by omega) (by omega)
  have hx := drawnS_sz zs (60 + 11 * (k : Int)) w
  have hxl := drawnS_len zs (60 + 11 * (k : Int)) w
  generalize drawnS zs (60 + 11 * (k : Int)) w = x at *
  by_cases h : 0 < cs.length ∧ 1 < k
  · obtain ⟨z2, a2, b2, c2⟩ := raw_at hz (2 + (k : Int)) (by omega) (by omega)
    obtain ⟨z6, a6, b6, c6⟩ := raw_at hz (6 + (k : Int)) (by omega) (by omega)
    have d0 := Int.emod_nonneg z2 (show (cs.length : Int) ≠ 0 by omega)
    have d1 := Int.emod_lt_of_pos z2 (show (0 : Int) < (cs.length : Int) by omega)
    have md : opD .Mod (.int z2) (.int (cs.length : Int)) = .ok (.val (.int (z2 % (cs.length : Int)))) := opD_mod (by omega)
    generalize z2 % (cs.length : Int) = ix at *
    obtain ⟨c, hc, atc⟩ := cond_at d0 d1
    obtain ⟨p1, p2, p3⟩ := hs.2.2 c hc
    have e56 := j56 c.a x (by omega) p2 (hx.mono (by omega)) (by omega)
    have hr : QS (Rat.divInt (z6 % 3 - 1) (1 + z6 / 3 % 1000)) 11 := QS.divInt (by omega) (by unfold Sz; omega) (by unfold Sz; omega)
    have e14 := j14 (z6 % 3 - 1) (1 + z6 / 3 % 1000) (by omega) (Sz.mono (k := 11) (by unfold Sz; omega) (by omega))
    generalize Rat.divInt (z6 % 3 - 1) (1 + z6 / 3 % 1000) = r at *
    have hdt : QS (dot c.a x) 161 := by
      refine (QS_dot (h8 c hc) hx).mono ?_
      have : c.a.length * (5 + 5 + 1) ≤ 10 * 11 := Nat.mul_le_mul_right _ (by omega)
      omega
    have e21 := j21 (dot c.a x) r (hdt.mono (by omega)) (hr.mono (by omega))
    have hnear : QS (dot c.a x + r) 200 := (QS.add hdt hr).mono (by omega)
    generalize dot c.a x + r = near at *
    refine ⟨x, cs.take ix.toNat ++ ⟨c.a, c.le, near⟩ :: cs.drop (ix.toNat + 1), .val (.int ix), .val (qd (dot c.a x)), .val (qd near), hx, hxl, ⟨hs.1, ?_, ?_⟩, ?_⟩
    · have := hs.2.1
      simp; omega
    · intro q hq
      rcases List.mem_append.mp hq with hq | hq
      · exact hs.2.2 q (List.mem_of_mem_take hq)
      · rcases List.mem_cons.mp hq with hq | hq
        · subst hq; exact ⟨p1, p2, hnear.mono (by omega)⟩
        · exact hs.2.2 q (List.mem_of_mem_drop hq)
    · have hlen : (cs.map cD).length = cs.length := List.length_map ..
      have hsl := hs.2.1
      have s1 : cut (cs.map cD) none (some ix) = (cs.take ix.toNat).map cD := by rw [cut_take _ _ d0 (by rw [hlen]; omega), List.map_take]
      have s2 : cut (cs.map cD) (some (ix + 1)) none = (cs.drop (ix.toNat + 1)).map cD := by rw [cut_drop _ _ (by omega) (by rw [hlen]; omega), List.map_drop, show (ix + 1).toNat = ix.toNat + 1 by omega]
      have hcd : cD ⟨c.a, c.le, near⟩ = .tup [rowD c.a, .str (relS c.le), qd near] := rfl
      have t1 := opD_addT ((cs.take ix.toNat).map cD) [.tup [rowD c.a, .str (relS c.le), qd near]] (by simp; omega)
      have t2 := opD_addT ((cs.take ix.toNat).map cD ++ [.tup [rowD c.a, .str (relS c.le), qd near]]) ((cs.drop (ix.toNat + 1)).map cD) (by simp; omega)
      have fin : (cs.take ix.toNat).map cD ++ [.tup [rowD c.a, .str (relS c.le), qd near]] ++ (cs.drop (ix.toNat + 1)).map cD = (cs.take ix.toNat ++ ⟨c.a, c.le, near⟩ :: cs.drop (ix.toNat + 1)).map cD := by
        rw [List.map_append, List.map_cons, hcd]; simp
      rw [fin] at t2
      have lenE : bltD .len [.tup (cs.map cD)] = .ok (.val (.int (cs.length : Int))) := by rw [blt_len_tup, hlen]
      have hcE : cD c = .tup [rowD c.a, .str (relS c.le), qd c.b] := rfl
      rw [hcE] at atc
      have dv : opD .FloorDiv (.int z6) (.int 3) = .ok (.val (.int (z6 / 3))) := opD_div (by omega) (by decide +kernel)
      have hk1 : (1 : Int) < (k : Int) := by have := h.2; omega
      have hc1 := h.1
      generalize (cs.take ix.toNat ++ ⟨c.a, c.le, near⟩ :: cs.drop (ix.toNat + 1)).map cD = F at *
      generalize (cs.take ix.toNat).map cD = A at *
      generalize (cs.drop (ix.toNat + 1)).map cD = B at *
      generalize cs.map cD = C at *
      generalize dot c.a x = dd at *
      rcases hs1 with rfl | rfl <;> simp [-blt_len_tup, i59, m1, e59, lenE, hc1, hk1, a2, md, atc, i56, e56, a6, dv, opD_mod, i14, e14, i21, e21, s1, s2, t1, t2]
  · refine ⟨x, cs', s9, s10, s11, hx, hxl, hs', ?_⟩
    by_cases hc : 0 < cs.length
    · have hk1 : ¬ 1 < (k : Int) := by omega
      rcases hs1 with rfl | rfl <;> simp [i59, m1, e59, hc, hk1]
    · have hc0 : cs = [] := List.eq_nil_of_length_eq_zero (by omega)
      subst hc0
      rcases hs1 with rfl | rfl <;> simp [i59, m1, e59]
end
end EV

set_option linter.all false
set_option autoImplicit false
namespace EV
section
variable {G : Env} {sub : Sub} {fuel : Nat}
theorem envOf_agree' {sub : Sub} {fuel i : Nat} {ds ds' : List Def} (h : findDef i ds = findDef i ds') (hs : (findDef i ds').isSome = true) : envOf sub fuel ds i = envOf sub fuel ds' i := by
  obtain ⟨⟨d, r⟩, e⟩ := Option.isSome_iff_exists.mp hs
  rw [envOf_find e, envOf_find (h.trans e)]
abbrev PP900 (g : List D → M R) : Prop := ∀ a b, QS a 900 → QS b 900 → g [qd a, qd b] = .ok (.val (qd (a + b)))
theorem ok_law (g50 : Has G 50 PNumsS) (g51 : Has G 51 PSystem) (g59 : Has G 59 PDrawn) (g56 : Has G 56 PLProd) (g21 : Has G 21 PP900) (g14 : Has G 14 PLRatio2) (g55 : Has G 55 PKeeps) (g58 : Has G 58 PLKeeps) (g60 : Has G 60 PHist) (g61 : Has G 61 PLHist) : PTrue (d_law.fn.run G sub fuel) := by
  obtain ⟨k50, i50, j50⟩ := g50
  obtain ⟨k51, i51, j51⟩ := g51
  obtain ⟨k59, i59, j59⟩ := g59
  obtain ⟨k56, i56, j56⟩ := g56
  obtain ⟨k21, i21, j21⟩ := g21
  obtain ⟨k14, i14, j14⟩ := g14
  obtain ⟨k55, i55, j55⟩ := g55
  obtain ⟨k58, i58, j58⟩ := g58
  obtain ⟨k60, i60, j60⟩ := g60
  obtain ⟨k61, i61, j61⟩ := g61
  intro ns hl
  obtain ⟨zs, hz, e50⟩ := j50 ns 140 hl (by omega) (by omega)
  have e50' : k50 [.scr (ns.map .int), .int 140] = .ok (.own (zs.map .int)) := e50
  rw [d_run rfl]
  obtain ⟨z0, a0, b0, c0⟩ := raw_at hz 0 (by omega) (by omega)
  obtain ⟨z1, a1, b1, c1⟩ := raw_at hz 1 (by omega) (by omega)
  obtain ⟨w, hw⟩ : ∃ w : Nat, (w : Int) = 1 + z0 % 6 := ⟨(1 + z0 % 6).toNat, by omega⟩
  obtain ⟨c, hc⟩ : ∃ c : Nat, (c : Int) = z1 % 7 := ⟨(z1 % 7).toNat, by omega⟩
  have hw1 : 1 ≤ w ∧ w ≤ 10 := by omega
  have e51 : k51 [.lst (zs.map .int), .int w, .int c, .int 3] = .ok (.val (.tup [.int w, .tup (((List.range c).map (condS zs w 3)).map cD)])) := j51 zs 140 w c 3 hz (by omega) (by omega) (by omega) (by omega) (by omega) (by omega)
  have hok := sys_ok zs w c 3 (by omega) (by omega) (by omega) (by omega)
  have h8 : ∀ q ∈ (List.range c).map (condS zs w 3), RS q.a 5 := by
    intro q hq
    obtain ⟨k, _, rfl⟩ := List.mem_map.mp hq
    exact rowS_sz _ _ _
  generalize (List.range c).map (condS zs w 3) = cs at *
  obtain ⟨s', o1, cs', s1, s3, s6, s7, s8, s9, s10, s11, hs1, hs', rfl⟩ := forL_inv (g := asg (.nm 3)) (b := evTs G sub fuel ([.frz 1, .asg (.nm 6) (.call 59 [.var 1, .op .Add (.k (.int 60)) (.op .Mult (.k (.int 11)) (.var 3)), .var 4]), .iff (.and (.cmp .Gt (.blt .len [.var 5]) (.k (.int 0))) (.one (.cmp .Gt (.var 3) (.k (.int 1))))) [.asg (.nm 9) (.op .Mod (.ix (.var 1) (.op .Add (.k (.int 2)) (.var 3))) (.blt .len [.var 5])), .frz 6, .asg (.nm 10) (.call 56 [.ix (.ix (.var 5) (.var 9)) (.k (.int 0)), .var 6]), .frz 10, .asg (.nm 11) (.call 21 [.var 10, .call 14 [.op .Sub (.op .Mod (.ix (.var 1) (.op .Add (.k (.int 6)) (.var 3))) (.k (.int 3))) (.k (.int 1)), .op .Add (.k (.int 1)) (.op .Mod (.op .FloorDiv (.ix (.var 1) (.op .Add (.k (.int 6)) (.var 3))) (.k (.int 3))) (.k (.int 1000)))]]), .frz 11, .asg (.nm 2) (.tup [.var 4, .op .Add (.op .Add (.sl (.var 5) none (some (.var 9))) (.tup [.tup [.ix (.ix (.var 5) (.var 9)) (.k (.int 0)), .ix (.ix (.var 5) (.var 9)) (.k (.int 1)), .var 11]])) (.sl (.var 5) (some (.op .Add (.var 9) (.k (.int 1)))) none)])] []] ++ [.forr (.nm 7) (.seq (.ix (.var 2) (.k (.int 1)))) [.frz 6, .asg (.nm 8) (.call 55 [.var 7, .var 6]), .frz 6, .iff (.or (.not (.isi (.var 8) .bool)) (.one (.cmp .NotEq (.var 8) (.call 58 [.var 7, .var 6])))) [.ret (.k (.bl false))] []], .frz 2, .frz 6, .asg (.nm 8) (.call 60 [.var 2, .var 6]), .frz 2, .frz 6, .iff (.or (.not (.isi (.var 8) .bool)) (.one (.cmp .NotEq (.var 8) (.call 61 [.var 2, .var 6])))) [.ret (.k (.bl false))] [], .frz 2, .iff (.or (.cmp .IsNot (.call 60 [.var 2, .op .Add (.var 6) (.tup [.tup [.k (.int 0), .k (.int 1)]])]) (.k (.bl false))) (.one (.cmp .IsNot (.call 60 [.var 2, .sl (.var 6) (some (.k (.int 1))) none]) (.k (.bl false))))) [.ret (.k (.bl false))] []]))
    (fun i s => ∃ (cs' : List Cond) (s1 s3 s6 s7 s8 s9 s10 s11 : S), (s1 = .own (zs.map .int) ∨ s1 = .val (.lst (zs.map .int))) ∧ SysOk w cs' ∧ s = [.val (.scr (ns.map .int)), s1, .val (.tup [.int w, .tup (cs'.map cD)]), s3, .val (.int w), .val (.tup (cs.map cD)), s6, s7, s8, s9, s10, s11])
    (rngL 0 4) [.val (.scr (ns.map .int)), .val (.lst (zs.map .int)), .val (.tup [.int w, .tup (cs.map cD)]), .emp, .val (.int w), .val (.tup (cs.map cD)), .emp, .emp, .emp, .emp, .emp, .emp] ⟨cs, _, _, _, _, _, _, _, _, .inr rfl, hok, rfl⟩
    (by
      rintro k d s hd ⟨cs', s1, s3, s6, s7, s8, s9, s10, s11, hs1, hs', rfl⟩
      obtain ⟨rfl, hk⟩ := rngL0_get hd
      refine ⟨_, by simp; rfl, ?_⟩
      obtain ⟨x, cs'', s9', s10', s11', x1, x2, x3, x4⟩ := head11 (sub := sub) (fuel := fuel) i14 i21 i56 i59 j14 j21 j56 j59 hz hok h8 hs' hw1 (by omega : k < 4) (.val (.scr (ns.map .int))) s1 s6 s7 s8 s9 s10 s11 hs1
      obtain ⟨s7', s8', y1⟩ := tail11 (sub := sub) (fuel := fuel) i55 i58 i60 i61 j55 j58 j60 j61 x3 x1 x2 hw1 (.val (.scr (ns.map .int))) (.val (.lst (zs.map .int))) (.val (.int (k : Int))) (.val (.int w)) (.val (.tup (cs.map cD))) s7 s8 s9' s10' s11'
      refine ⟨_, ?_, cs'', .val (.lst (zs.map .int)), .val (.int (k : Int)), .val (rowD x), s7', s8', s9', s10', s11', .inr rfl, x3, rfl⟩
      rw [evTs_append, x4, seq_nx, y1])
  have hs0 : SysOk w [] := ⟨by omega, by simp, by simp⟩
  have m1 := rowD_rep (w : Int) (by omega) (by omega)
  rw [qd_zero] at m1
  have m2 := rowD_rep ((w : Int) - 1) (by omega) (by omega)
  rw [qd_zero] at m2
  have u1 : k60 [.tup [.int w, .tup []], rowD (List.replicate (w : Int).toNat 0)] = .ok (.val (.bl true)) := by
    have := j60 w [] (List.replicate (w : Int).toNat 0) hs0 (by intro q hq; rw [List.eq_of_mem_replicate hq]; exact QS.zero.mono (by omega)) (by simp; omega)
    rw [show histQ w [] (List.replicate (w : Int).toNat 0) = true by unfold histQ; simp] at this
    exact this
  have q9 := q_of (p := -1) (q := 9) (by omega) (by decide)
  have hq9 : D.tup [.int (-1), .int 9] = qd (Rat.divInt (-1) 9) := by unfold qd; rw [q9.1, q9.2]
  have sz9 : QS (Rat.divInt (-1) 9) 20 := by unfold QS; rw [q9.1, q9.2]; exact ⟨Sz.mono (k := 2) (by unfold Sz; decide) (by omega), Sz.mono (k := 4) (by unfold Sz; decide) (by omega)⟩
  have m3 : opD .Add (.tup [.tup [.int (-1), .int 9]]) (rowD (List.replicate ((w : Int) - 1).toNat 0)) = .ok (.val (rowD (Rat.divInt (-1) 9 :: List.replicate ((w : Int) - 1).toNat 0))) := by
    rw [hq9]
    unfold rowD
    rw [opD_addT _ _ (by simp; omega)]; rfl
  have u2 : k60 [.tup [.int w, .tup []], rowD (Rat.divInt (-1) 9 :: List.replicate ((w : Int) - 1).toNat 0)] = .ok (.val (.bl false)) := by
    have := j60 w [] (Rat.divInt (-1) 9 :: List.replicate ((w : Int) - 1).toNat 0) hs0 (by
      intro q hq
      rcases List.mem_cons.mp hq with hq | hq
      · subst hq; exact sz9
      · rw [List.eq_of_mem_replicate hq]; exact QS.zero.mono (by omega)) (by simp; omega)
    rw [show histQ w [] (Rat.divInt (-1) 9 :: List.replicate ((w : Int) - 1).toNat 0) = false by unfold histQ; rw [List.all_cons, q9.1]; simp] at this
    exact this
  have o2 : loopF G sub fuel (.nm 3) [.frz 1, .asg (.nm 6) (.call 59 [.var 1, .op .Add (.k (.int 60)) (.op .Mult (.k (.int 11)) (.var 3)), .var 4]), .iff (.and (.cmp .Gt (.blt .len [.var 5]) (.k (.int 0))) (.one (.cmp .Gt (.var 3) (.k (.int 1))))) [.asg (.nm 9) (.op .Mod (.ix (.var 1) (.op .Add (.k (.int 2)) (.var 3))) (.blt .len [.var 5])), .frz 6, .asg (.nm 10) (.call 56 [.ix (.ix (.var 5) (.var 9)) (.k (.int 0)), .var 6]), .frz 10, .asg (.nm 11) (.call 21 [.var 10, .call 14 [.op .Sub (.op .Mod (.ix (.var 1) (.op .Add (.k (.int 6)) (.var 3))) (.k (.int 3))) (.k (.int 1)), .op .Add (.k (.int 1)) (.op .Mod (.op .FloorDiv (.ix (.var 1) (.op .Add (.k (.int 6)) (.var 3))) (.k (.int 3))) (.k (.int 1000)))]]), .frz 11, .asg (.nm 2) (.tup [.var 4, .op .Add (.op .Add (.sl (.var 5) none (some (.var 9))) (.tup [.tup [.ix (.ix (.var 5) (.var 9)) (.k (.int 0)), .ix (.ix (.var 5) (.var 9)) (.k (.int 1)), .var 11]])) (.sl (.var 5) (some (.op .Add (.var 9) (.k (.int 1)))) none)])] [], .forr (.nm 7) (.seq (.ix (.var 2) (.k (.int 1)))) [.frz 6, .asg (.nm 8) (.call 55 [.var 7, .var 6]), .frz 6, .iff (.or (.not (.isi (.var 8) .bool)) (.one (.cmp .NotEq (.var 8) (.call 58 [.var 7, .var 6])))) [.ret (.k (.bl false))] []], .frz 2, .frz 6, .asg (.nm 8) (.call 60 [.var 2, .var 6]), .frz 2, .frz 6, .iff (.or (.not (.isi (.var 8) .bool)) (.one (.cmp .NotEq (.var 8) (.call 61 [.var 2, .var 6])))) [.ret (.k (.bl false))] [], .frz 2, .iff (.or (.cmp .IsNot (.call 60 [.var 2, .op .Add (.var 6) (.tup [.tup [.k (.int 0), .k (.int 1)]])]) (.k (.bl false))) (.one (.cmp .IsNot (.call 60 [.var 2, .sl (.var 6) (some (.k (.int 1))) none]) (.k (.bl false))))) [.ret (.k (.bl false))] []] (rngL 0 4) [.val (.scr (ns.map .int)), .val (.lst (zs.map .int)), .val (.tup [.int w, .tup (cs.map cD)]), .emp, .val (.int w), .val (.tup (cs.map cD)), .emp, .emp, .emp, .emp, .emp, .emp] = _ := o1
  have hsm : small 4 = true := by decide
  generalize rowD (List.replicate (w : Int).toNat 0) = r1 at *
  generalize rowD (Rat.divInt (-1) 9 :: List.replicate ((w : Int) - 1).toNat 0) = r3 at *
  generalize rowD (List.replicate ((w : Int) - 1).toNat 0) = r2 at *
  simp only [d_law, b_law, startS]
  simp [i50, e50', a0, a1, opD_mod, ← hw, ← hc, i51, e51, hsm, o2, i60, u1, u2, m1, m2, m3]
end
end EV

set_option Elab.async false
set_option linter.all false
set_option maxRecDepth 100000
set_option maxHeartbeats 16000000
namespace EV
open PySem PySem.Spec PyProof.Rows L2
def top (i : Nat) : Stmt := PySem.Challenge.pw_kerbside_k11_histories.main.body.getD i (.Pass ⟨0, 0, 0, 0⟩)
def lawSt : Stc where
  N := []
  fn := [(1, "common", 2), (4, "ratio", 2), (10, "of_int", 1), (11, "plus", 2), (16, "times", 2), (13, "sign_of", 1), (17, "compare", 2), (30, "check_widths", 2), (36, "product", 2), (53, "is_kept", 3), (55, "keeps", 2), (54, "is_positive", 2), (60, "is_history", 2), (50, "_law_numbers", 2), (14, "_law_ratio", 2), (21, "_law_plus", 2), (31, "_law_times", 2), (57, "_law_less", 2), (56, "_law_product", 2), (48, "_law_part", 1), (37, "_law_row", 3), (49, "_law_bound", 2), (51, "_law_system", 4), (58, "_law_keeps", 2), (61, "_law_is_history", 2), (59, "_law_drawn", 3)]
  gls := []
  blts := ["abs", "all", "bool", "int", "isinstance", "len", "max", "range", "tuple", "zip"]
  exs := [(0, "KerbError"), (1, "NotAllowed")]
abbrev lawDs : List (Def × Stmt) := [(d__law_drawn, top 32), (d__law_is_history, top 31), (d__law_keeps, top 30), (d__law_system, top 29), (d__law_bound, top 28), (d__law_row, top 27), (d__law_part, top 26), (d__law_product, top 25), (d__law_less, top 24), (d__law_times, top 23), (d__law_plus, top 22), (d__law_ratio_v2, top 21), (d__law_numbers, top 20), (d_is_history, top 18), (d_is_positive, top 17), (d_keeps, top 16), (d_is_kept, top 15), (d_product, top 13), (d_check_widths, top 12), (d_compare, top 10), (d_sign_of, top 9), (d_times, top 8), (d_plus, top 7), (d_of_int, top 6), (d_ratio, top 5), (d_common, top 4)]
def lawSub : Sub := fun c k => if [0, 1].contains c && [0, 1].contains k then some (k == 0 || c == k) else none
theorem pure_law (ns : List Int) (h : ns.length ≤ 63) : d_law.fn.run (envOf lawSub 1000000 (lawDs.map (·.1))) lawSub 1000000 [scrOf ns] = .ok (.val (.bl true)) := by
  have c1 : ∀ {ds : List Def}, (∃ r, findDef 1 ds = some (d_common, r)) → Has (envOf lawSub 1000000 ds) 1 (PGcd 8000) := fun ⟨r, e⟩ => has_of d_common r e (ok_common (by omega))
  have c4 : ∀ {ds r : List Def}, findDef 4 ds = some (d_ratio, r) → (∃ q, findDef 1 r = some (d_common, q)) → Has (envOf lawSub 1000000 ds) 4 (PRatio 8000) := fun e e1 => has_of d_ratio _ e (ok_ratio (by omega) (c1 e1))
  have h14 : ∀ {ds r : List Def}, findDef 14 ds = some (d__law_ratio_v2, r) → Has (envOf lawSub 1000000 ds) 14 PLRatio2 := fun e => has_of d__law_ratio_v2 _ e ok_lratio2
  have h21 : ∀ {ds r q : List Def}, findDef 21 ds = some (d__law_plus, r) → findDef 14 r = some (d__law_ratio_v2, q) → Has (envOf lawSub 1000000 ds) 21 PP900 := fun e e1 => has_of d__law_plus _ e (ok_lplus2 (h14 e1))
  have h31 : ∀ {ds r q : List Def}, findDef 31 ds = some (d__law_times, r) → findDef 14 r = some (d__law_ratio_v2, q) → Has (envOf lawSub 1000000 ds) 31 (fun g => ∀ a b, QS a 900 → QS b 900 → g [qd a, qd b] = .ok (.val (qd (a * b)))) := fun e e1 => has_of d__law_times _ e (ok_ltimes2 (h14 e1))
  have h13 : ∀ {ds r : List Def}, findDef 13 ds = some (d_sign_of, r) → Has (envOf lawSub 1000000 ds) 13 PSign := fun e => has_of d_sign_of _ e ok_sign
  have h36 : Has (envOf lawSub 1000000 (lawDs.map (·.1))) 36 PProd := has_of d_product _ rfl (ok_product (has_of d_check_widths _ rfl ok_widths) (has_of d_of_int _ rfl ok_of_int) (has_of d_plus _ rfl (ok_plus (c4 rfl ⟨_, rfl⟩))) (has_of d_times _ rfl (ok_times (c4 rfl ⟨_, rfl⟩))))
  have h36' : ∀ {ds : List Def}, findDef 36 ds = findDef 36 (lawDs.map (·.1)) → Has (envOf lawSub 1000000 ds) 36 PProd := by
    intro ds e
    obtain ⟨g, g1, g2⟩ := h36
    exact ⟨g, (envOf_agree' e rfl).trans g1, g2⟩
  have h55 : ∀ {ds r : List Def}, findDef 55 ds = some (d_keeps, r) → findDef 36 r = findDef 36 (lawDs.map (·.1)) → (∃ q, findDef 53 r = some (d_is_kept, q) ∧ (∃ t, findDef 17 q = some (d_compare, t) ∧ ∃ u, findDef 13 t = some (d_sign_of, u))) → Has (envOf lawSub 1000000 ds) 55 PKeeps :=
    fun e e1 ⟨_, e2, _, e3, _, e4⟩ => has_of d_keeps _ e (ok_keeps (has_of d_is_kept _ e2 (ok_kept (has_of d_compare _ e3 (ok_compare (h13 e4))))) (h36' e1))
  have h56 : ∀ {ds r q1 q2 t1 t2 : List Def}, findDef 56 ds = some (d__law_product, r) → findDef 21 r = some (d__law_plus, q1) → findDef 14 q1 = some (d__law_ratio_v2, t1) → findDef 31 r = some (d__law_times, q2) → findDef 14 q2 = some (d__law_ratio_v2, t2) → Has (envOf lawSub 1000000 ds) 56 PLProd := fun e e1 e2 e3 e4 => has_of d__law_product _ e (ok_lprod (h21 e1 e2) (h31 e3 e4))
  have x := ok_law (G := envOf lawSub 1000000 (lawDs.map (·.1))) (sub := lawSub) (fuel := 1000000)
    (has_of d__law_numbers _ rfl ok_numsS)
    (has_of d__law_system _ rfl (ok_system (has_of d__law_bound _ rfl (ok_bound (h14 rfl))) (has_of d__law_row _ rfl (ok_rowS (has_of d__law_part _ rfl (ok_part (h14 rfl)))))))
    (has_of d__law_drawn _ rfl (ok_drawn (h14 rfl)))
    (h56 rfl rfl rfl rfl rfl)
    (h21 rfl rfl)
    (h14 rfl)
    (by refine h55 rfl ?_ ?_ <;> first | rfl | exact ⟨_, rfl, _, rfl, _, rfl⟩)
    (has_of d__law_keeps _ rfl (ok_lkeeps (h56 rfl rfl rfl rfl rfl) (has_of d__law_less _ rfl ok_less)))
    (has_of d_is_history _ rfl (ok_hist (has_of d_is_positive _ rfl (ok_pos (h13 rfl))) (by refine h55 rfl ?_ ?_ <;> first | rfl | exact ⟨_, rfl, _, rfl, _, rfl⟩)))
    (has_of d__law_is_history _ rfl (ok_lhist (has_of d__law_keeps _ rfl (ok_lkeeps (h56 rfl rfl rfl rfl rfl) (has_of d__law_less _ rfl ok_less)))))
  exact x ns h
theorem chk_fn : chkFn lawSt.fn = true := by decide +kernel
theorem chk_ds : lawDs.all (fun d => chkD lawSt d.1 d.2 && lawSt.fn.any fun p => decide (p.1 = d.1.id) && decide (p.2.1 = d.1.name)) = true := by decide +kernel
theorem chk_law : chkD lawSt d_law (top 33) = true := by decide +kernel
section
set_option linter.all false
theorem all_mk {l : PySem.W.OpenLaw} {w : World} {K : PySem.W.Frag} {h : Heap} {mg : Str → Option Value} {fa : Addr} {fuel : Nat} (X : K.In h) (G : h.Ns mainGlobals mg) (hfa : mg "law" = some (.ref fa))
    {f0 f1 f2 f3 f4 f5 f6 f7 f8 f9 f10 f11 f12 f13 f14 f15 f16 f17 f18 f19 f20 f21 f22 f23 f24 f25 f26 C0 C1 : Addr} {od0 an0 od1 an1 od2 an2 od3 an3 od4 an4 od5 an5 od6 an6 od7 an7 od8 an8 od9 an9 od10 an10 od11 an11 od12 an12 od13 an13 od14 an14 od15 an15 od16 an16 od17 an17 od18 an18 od19 an19 od20 an20 od21 an21 od22 an22 od23 an23 od24 an24 od25 an25 od26 an26 : Option Addr} {sl0 sl1 sl2 sl3 sl4 sl5 sl6 sl7 sl8 sl9 sl10 sl11 sl12 sl13 sl14 sl15 sl16 sl17 sl18 sl19 sl20 sl21 sl22 sl23 sl24 sl25 sl26 : Array (Option Value)} {oc0 kV0 dc0 pm0 cd0 ct0 oc1 kV1 dc1 pm1 cd1 ct1 oc2 kV2 dc2 pm2 cd2 ct2 oc3 kV3 dc3 pm3 cd3 ct3 oc4 kV4 dc4 pm4 cd4 ct4 oc5 kV5 dc5 pm5 cd5 ct5 oc6 kV6 dc6 pm6 cd6 ct6 oc7 kV7 dc7 pm7 cd7 ct7 oc8 kV8 dc8 pm8 cd8 ct8 oc9 kV9 dc9 pm9 cd9 ct9 oc10 kV10 dc10 pm10 cd10 ct10 oc11 kV11 dc11 pm11 cd11 ct11 oc12 kV12 dc12 pm12 cd12 ct12 oc13 kV13 dc13 pm13 cd13 ct13 oc14 kV14 dc14 pm14 cd14 ct14 oc15 kV15 dc15 pm15 cd15 ct15 oc16 kV16 dc16 pm16 cd16 ct16 oc17 kV17 dc17 pm17 cd17 ct17 oc18 kV18 dc18 pm18 cd18 ct18 oc19 kV19 dc19 pm19 cd19 ct19 oc20 kV20 dc20 pm20 cd20 ct20 oc21 kV21 dc21 pm21 cd21 ct21 oc22 kV22 dc22 pm22 cd22 ct22 oc23 kV23 dc23 pm23 cd23 ct23 oc24 kV24 dc24 pm24 cd24 ct24 oc25 kV25 dc25 pm25 cd25 ct25 oc26 kV26 dc26 pm26 cd26 ct26 : Value} 
    (a0 : PySem.W.nsIn K mainGlobals "common" = some (some (.ref f0)))
    (l0 : K.lookup f0 = some ⟨oc0, od0, .func (PySem.W.fnOf "common" "common" (defArgs (top 4)) (defBody (top 4)) (defScope (top 4)) .none kV0 dc0 pm0 an0 cd0 ct0), sl0⟩)
    (c0 : PySem.W.codeIn K cd0 "common" = true)
    (k0 : PySem.W.keepIn K (.ref f0) = true)
    (a1 : PySem.W.nsIn K mainGlobals "ratio" = some (some (.ref f1)))
    (l1 : K.lookup f1 = some ⟨oc1, od1, .func (PySem.W.fnOf "ratio" "ratio" (defArgs (top 5)) (defBody (top 5)) (defScope (top 5)) .none kV1 dc1 pm1 an1 cd1 ct1), sl1⟩)
    (c1 : PySem.W.codeIn K cd1 "ratio" = true)
    (k1 : PySem.W.keepIn K (.ref f1) = true)
    (a2 : PySem.W.nsIn K mainGlobals "of_int" = some (some (.ref f2)))
    (l2 : K.lookup f2 = some ⟨oc2, od2, .func (PySem.W.fnOf "of_int" "of_int" (defArgs (top 6)) (defBody (top 6)) (defScope (top 6)) .none kV2 dc2 pm2 an2 cd2 ct2), sl2⟩)
    (c2 : PySem.W.codeIn K cd2 "of_int" = true)
    (k2 : PySem.W.keepIn K (.ref f2) = true)
    (a3 : PySem.W.nsIn K mainGlobals "plus" = some (some (.ref f3)))
    (l3 : K.lookup f3 = some ⟨oc3, od3, .func (PySem.W.fnOf "plus" "plus" (defArgs (top 7)) (defBody (top 7)) (defScope (top 7)) .none kV3 dc3 pm3 an3 cd3 ct3), sl3⟩)
    (c3 : PySem.W.codeIn K cd3 "plus" = true)
    (k3 : PySem.W.keepIn K (.ref f3) = true)
    (a4 : PySem.W.nsIn K mainGlobals "times" = some (some (.ref f4)))
    (l4 : K.lookup f4 = some ⟨oc4, od4, .func (PySem.W.fnOf "times" "times" (defArgs (top 8)) (defBody (top 8)) (defScope (top 8)) .none kV4 dc4 pm4 an4 cd4 ct4), sl4⟩)
    (c4 : PySem.W.codeIn K cd4 "times" = true)
    (k4 : PySem.W.keepIn K (.ref f4) = true)
    (a5 : PySem.W.nsIn K mainGlobals "sign_of" = some (some (.ref f5)))
    (l5 : K.lookup f5 = some ⟨oc5, od5, .func (PySem.W.fnOf "sign_of" "sign_of" (defArgs (top 9)) (defBody (top 9)) (defScope (top 9)) .none kV5 dc5 pm5 an5 cd5 ct5), sl5⟩)
    (c5 : PySem.W.codeIn K cd5 "sign_of" = true)
    (k5 : PySem.W.keepIn K (.ref f5) = true)
    (a6 : PySem.W.nsIn K mainGlobals "compare" = some (some (.ref f6)))
    (l6 : K.lookup f6 = some ⟨oc6, od6, .func (PySem.W.fnOf "compare" "compare" (defArgs (top 10)) (defBody (top 10)) (defScope (top 10)) .none kV6 dc6 pm6 an6 cd6 ct6), sl6⟩)
    (c6 : PySem.W.codeIn K cd6 "compare" = true)
    (k6 : PySem.W.keepIn K (.ref f6) = true)
    (a7 : PySem.W.nsIn K mainGlobals "check_widths" = some (some (.ref f7)))
    (l7 : K.lookup f7 = some ⟨oc7, od7, .func (PySem.W.fnOf "check_widths" "check_widths" (defArgs (top 12)) (defBody (top 12)) (defScope (top 12)) .none kV7 dc7 pm7 an7 cd7 ct7), sl7⟩)
    (c7 : PySem.W.codeIn K cd7 "check_widths" = true)
    (k7 : PySem.W.keepIn K (.ref f7) = true)
    (a8 : PySem.W.nsIn K mainGlobals "product" = some (some (.ref f8)))
    (l8 : K.lookup f8 = some ⟨oc8, od8, .func (PySem.W.fnOf "product" "product" (defArgs (top 13)) (defBody (top 13)) (defScope (top 13)) .none kV8 dc8 pm8 an8 cd8 ct8), sl8⟩)
    (c8 : PySem.W.codeIn K cd8 "product" = true)
    (k8 : PySem.W.keepIn K (.ref f8) = true)
    (a9 : PySem.W.nsIn K mainGlobals "is_kept" = some (some (.ref f9)))
    (l9 : K.lookup f9 = some ⟨oc9, od9, .func (PySem.W.fnOf "is_kept" "is_kept" (defArgs (top 15)) (defBody (top 15)) (defScope (top 15)) .none kV9 dc9 pm9 an9 cd9 ct9), sl9⟩)
    (c9 : PySem.W.codeIn K cd9 "is_kept" = true)
    (k9 : PySem.W.keepIn K (.ref f9) = true)
    (a10 : PySem.W.nsIn K mainGlobals "keeps" = some (some (.ref f10)))
    (l10 : K.lookup f10 = some ⟨oc10, od10, .func (PySem.W.fnOf "keeps" "keeps" (defArgs (top 16)) (defBody (top 16)) (defScope (top 16)) .none kV10 dc10 pm10 an10 cd10 ct10), sl10⟩)
    (c10 : PySem.W.codeIn K cd10 "keeps" = true)
    (k10 : PySem.W.keepIn K (.ref f10) = true)
    (a11 : PySem.W.nsIn K mainGlobals "is_positive" = some (some (.ref f11)))
    (l11 : K.lookup f11 = some ⟨oc11, od11, .func (PySem.W.fnOf "is_positive" "is_positive" (defArgs (top 17)) (defBody (top 17)) (defScope (top 17)) .none kV11 dc11 pm11 an11 cd11 ct11), sl11⟩)
    (c11 : PySem.W.codeIn K cd11 "is_positive" = true)
    (k11 : PySem.W.keepIn K (.ref f11) = true)
    (a12 : PySem.W.nsIn K mainGlobals "is_history" = some (some (.ref f12)))
    (l12 : K.lookup f12 = some ⟨oc12, od12, .func (PySem.W.fnOf "is_history" "is_history" (defArgs (top 18)) (defBody (top 18)) (defScope (top 18)) .none kV12 dc12 pm12 an12 cd12 ct12), sl12⟩)
    (c12 : PySem.W.codeIn K cd12 "is_history" = true)
    (k12 : PySem.W.keepIn K (.ref f12) = true)
    (a13 : PySem.W.nsIn K mainGlobals "_law_numbers" = some (some (.ref f13)))
    (l13 : K.lookup f13 = some ⟨oc13, od13, .func (PySem.W.fnOf "_law_numbers" "_law_numbers" (defArgs (top 20)) (defBody (top 20)) (defScope (top 20)) .none kV13 dc13 pm13 an13 cd13 ct13), sl13⟩)
    (c13 : PySem.W.codeIn K cd13 "_law_numbers" = true)
    (k13 : PySem.W.keepIn K (.ref f13) = true)
    (a14 : PySem.W.nsIn K mainGlobals "_law_ratio" = some (some (.ref f14)))
    (l14 : K.lookup f14 = some ⟨oc14, od14, .func (PySem.W.fnOf "_law_ratio" "_law_ratio" (defArgs (top 21)) (defBody (top 21)) (defScope (top 21)) .none kV14 dc14 pm14 an14 cd14 ct14), sl14⟩)
    (c14 : PySem.W.codeIn K cd14 "_law_ratio" = true)
    (k14 : PySem.W.keepIn K (.ref f14) = true)
    (a15 : PySem.W.nsIn K mainGlobals "_law_plus" = some (some (.ref f15)))
    (l15 : K.lookup f15 = some ⟨oc15, od15, .func (PySem.W.fnOf "_law_plus" "_law_plus" (defArgs (top 22)) (defBody (top 22)) (defScope (top 22)) .none kV15 dc15 pm15 an15 cd15 ct15), sl15⟩)
    (c15 : PySem.W.codeIn K cd15 "_law_plus" = true)
    (k15 : PySem.W.keepIn K (.ref f15) = true)
    (a16 : PySem.W.nsIn K mainGlobals "_law_times" = some (some (.ref f16)))
    (l16 : K.lookup f16 = some ⟨oc16, od16, .func (PySem.W.fnOf "_law_times" "_law_times" (defArgs (top 23)) (defBody (top 23)) (defScope (top 23)) .none kV16 dc16 pm16 an16 cd16 ct16), sl16⟩)
    (c16 : PySem.W.codeIn K cd16 "_law_times" = true)
    (k16 : PySem.W.keepIn K (.ref f16) = true)
    (a17 : PySem.W.nsIn K mainGlobals "_law_less" = some (some (.ref f17)))
    (l17 : K.lookup f17 = some ⟨oc17, od17, .func (PySem.W.fnOf "_law_less" "_law_less" (defArgs (top 24)) (defBody (top 24)) (defScope (top 24)) .none kV17 dc17 pm17 an17 cd17 ct17), sl17⟩)
    (c17 : PySem.W.codeIn K cd17 "_law_less" = true)
    (k17 : PySem.W.keepIn K (.ref f17) = true)
    (a18 : PySem.W.nsIn K mainGlobals "_law_product" = some (some (.ref f18)))
    (l18 : K.lookup f18 = some ⟨oc18, od18, .func (PySem.W.fnOf "_law_product" "_law_product" (defArgs (top 25)) (defBody (top 25)) (defScope (top 25)) .none kV18 dc18 pm18 an18 cd18 ct18), sl18⟩)
    (c18 : PySem.W.codeIn K cd18 "_law_product" = true)
    (k18 : PySem.W.keepIn K (.ref f18) = true)
    (a19 : PySem.W.nsIn K mainGlobals "_law_part" = some (some (.ref f19)))
    (l19 : K.lookup f19 = some ⟨oc19, od19, .func (PySem.W.fnOf "_law_part" "_law_part" (defArgs (top 26)) (defBody (top 26)) (defScope (top 26)) .none kV19 dc19 pm19 an19 cd19 ct19), sl19⟩)
    (c19 : PySem.W.codeIn K cd19 "_law_part" = true)
    (k19 : PySem.W.keepIn K (.ref f19) = true)
    (a20 : PySem.W.nsIn K mainGlobals "_law_row" = some (some (.ref f20)))
    (l20 : K.lookup f20 = some ⟨oc20, od20, .func (PySem.W.fnOf "_law_row" "_law_row" (defArgs (top 27)) (defBody (top 27)) (defScope (top 27)) .none kV20 dc20 pm20 an20 cd20 ct20), sl20⟩)
    (c20 : PySem.W.codeIn K cd20 "_law_row" = true)
    (k20 : PySem.W.keepIn K (.ref f20) = true)
    (a21 : PySem.W.nsIn K mainGlobals "_law_bound" = some (some (.ref f21)))
    (l21 : K.lookup f21 = some ⟨oc21, od21, .func (PySem.W.fnOf "_law_bound" "_law_bound" (defArgs (top 28)) (defBody (top 28)) (defScope (top 28)) .none kV21 dc21 pm21 an21 cd21 ct21), sl21⟩)
    (c21 : PySem.W.codeIn K cd21 "_law_bound" = true)
    (k21 : PySem.W.keepIn K (.ref f21) = true)
    (a22 : PySem.W.nsIn K mainGlobals "_law_system" = some (some (.ref f22)))
    (l22 : K.lookup f22 = some ⟨oc22, od22, .func (PySem.W.fnOf "_law_system" "_law_system" (defArgs (top 29)) (defBody (top 29)) (defScope (top 29)) .none kV22 dc22 pm22 an22 cd22 ct22), sl22⟩)
    (c22 : PySem.W.codeIn K cd22 "_law_system" = true)
    (k22 : PySem.W.keepIn K (.ref f22) = true)
    (a23 : PySem.W.nsIn K mainGlobals "_law_keeps" = some (some (.ref f23)))
    (l23 : K.lookup f23 = some ⟨oc23, od23, .func (PySem.W.fnOf "_law_keeps" "_law_keeps" (defArgs (top 30)) (defBody (top 30)) (defScope (top 30)) .none kV23 dc23 pm23 an23 cd23 ct23), sl23⟩)
    (c23 : PySem.W.codeIn K cd23 "_law_keeps" = true)
    (k23 : PySem.W.keepIn K (.ref f23) = true)
    (a24 : PySem.W.nsIn K mainGlobals "_law_is_history" = some (some (.ref f24)))
    (l24 : K.lookup f24 = some ⟨oc24, od24, .func (PySem.W.fnOf "_law_is_history" "_law_is_history" (defArgs (top 31)) (defBody (top 31)) (defScope (top 31)) .none kV24 dc24 pm24 an24 cd24 ct24), sl24⟩)
    (c24 : PySem.W.codeIn K cd24 "_law_is_history" = true)
    (k24 : PySem.W.keepIn K (.ref f24) = true)
    (a25 : PySem.W.nsIn K mainGlobals "_law_drawn" = some (some (.ref f25)))
    (l25 : K.lookup f25 = some ⟨oc25, od25, .func (PySem.W.fnOf "_law_drawn" "_law_drawn" (defArgs (top 32)) (defBody (top 32)) (defScope (top 32)) .none kV25 dc25 pm25 an25 cd25 ct25), sl25⟩)
    (c25 : PySem.W.codeIn K cd25 "_law_drawn" = true)
    (k25 : PySem.W.keepIn K (.ref f25) = true)
    (a26 : PySem.W.nsIn K mainGlobals "law" = some (some (.ref f26)))
    (l26 : K.lookup f26 = some ⟨oc26, od26, .func (PySem.W.fnOf "law" "law" (defArgs (top 33)) (defBody (top 33)) (defScope (top 33)) .none kV26 dc26 pm26 an26 cd26 ct26), sl26⟩)
    (c26 : PySem.W.codeIn K cd26 "law" = true)
    (k26 : PySem.W.keepIn K (.ref f26) = true)
    (eA0 : PySem.W.nsIn K mainGlobals "KerbError" = some (some (.ref C0)))
    (eX0 : PySem.W.excIn K C0 [.type "ValueError", .type "Exception", .type "BaseException", .type "object"] "ValueError.__new__" = true)
    (eK0 : PySem.W.keepIn K (.ref C0) = true)
    (eB0 : PySem.W.subIn K (.ref C0) (.type "BaseException") = some true)
    (eT0 : PySem.W.typeIn K (.ref C0) = some (.type "type"))
    (eG0 : PySem.W.findIn K (.ref C0) "__getattribute__" = some (some (.builtin "BaseException.__getattribute__")))
    (eH0 : PySem.W.findIn K (.ref C0) "__getattr__" = some none)
    (eD0 : PySem.W.hasDictIn K C0 = true)
    (eC0 : PySem.W.findIn K (.ref C0) "__class__" = some (some (.builtin "object.__class__")))
    (eM0 : PySem.W.mroIn K C0 (.type "object") = some true)
    (eS0_0 : PySem.W.subIn K (.ref C0) (.ref C0) = some true)
    (eS0_1 : PySem.W.subIn K (.ref C0) (.ref C1) = some false)
    (eA1 : PySem.W.nsIn K mainGlobals "NotAllowed" = some (some (.ref C1)))
    (eX1 : PySem.W.excIn K C1 [.type "ValueError", .type "Exception", .type "BaseException", .type "object"] "ValueError.__new__" = true)
    (eK1 : PySem.W.keepIn K (.ref C1) = true)
    (eB1 : PySem.W.subIn K (.ref C1) (.type "BaseException") = some true)
    (eT1 : PySem.W.typeIn K (.ref C1) = some (.type "type"))
    (eG1 : PySem.W.findIn K (.ref C1) "__getattribute__" = some (some (.builtin "BaseException.__getattribute__")))
    (eH1 : PySem.W.findIn K (.ref C1) "__getattr__" = some none)
    (eD1 : PySem.W.hasDictIn K C1 = true)
    (eC1 : PySem.W.findIn K (.ref C1) "__class__" = some (some (.builtin "object.__class__")))
    (eM1 : PySem.W.mroIn K C1 (.type "object") = some true)
    (eS1_0 : PySem.W.subIn K (.ref C1) (.ref C0) = some true)
    (eS1_1 : PySem.W.subIn K (.ref C1) (.ref C1) = some true)
    (eN : PySem.W.specialIn K (.builtin "object.__class__") "__get__" = some (some (.builtin "getset_descriptor.__get__")))
    (eQ : PySem.W.takesIn K (.builtin "object.__class__") = some true)
    (z0 : PySem.W.nsIn K mainGlobals "abs" = some none)
    (z1 : PySem.W.nsIn K mainGlobals "all" = some none)
    (z2 : PySem.W.nsIn K mainGlobals "bool" = some none)
    (z3 : PySem.W.nsIn K mainGlobals "int" = some none)
    (z4 : PySem.W.nsIn K mainGlobals "isinstance" = some none)
    (z5 : PySem.W.nsIn K mainGlobals "len" = some none)
    (z6 : PySem.W.nsIn K mainGlobals "max" = some none)
    (z7 : PySem.W.nsIn K mainGlobals "range" = some none)
    (z8 : PySem.W.nsIn K mainGlobals "tuple" = some none)
    (z9 : PySem.W.nsIn K mainGlobals "zip" = some none) :
    ∃ fd : FuncData, (∀ (s : Shared) (v : Value), BindsTo s fd ⟨[v], []⟩ [("_law_script", v)]) ∧ ∃ cls, ∀ base : Heap, K.In base → base.Ns mainGlobals mg → FnOk l.prog w K mg base (L2.CX l.prog w) 27 fa fd ["_law_script"] (spF K cls 1 (d_law.fn.run (envOf lawSub fuel (lawDs.map (·.1))) lawSub fuel)) := by
  have e := hfa.symm.trans (PySem.W.mg_of X G a26)
  cases e
  let cls : Nat → Value := fun c => if c = 0 then .ref C0 else if c = 1 then .ref C1 else .none
  have pf : PF K mg lawSt lawSub cls := by
    refine ⟨?_, ?_, ?_, ?_, ?_⟩
    · intro x hx
      simp only [lawSt, List.mem_cons, List.not_mem_nil, or_false] at hx
      rcases hx with rfl | rfl | rfl | rfl | rfl | rfl | rfl | rfl | rfl | rfl
      · exact PySem.W.mg_none_of X G z0
      · exact PySem.W.mg_none_of X G z1
      · exact PySem.W.mg_none_of X G z2
      · exact PySem.W.mg_none_of X G z3
      · exact PySem.W.mg_none_of X G z4
      · exact PySem.W.mg_none_of X G z5
      · exact PySem.W.mg_none_of X G z6
      · exact PySem.W.mg_none_of X G z7
      · exact PySem.W.mg_none_of X G z8
      · exact PySem.W.mg_none_of X G z9
    · intro p hp
      simp only [lawSt, List.mem_cons, List.not_mem_nil, or_false] at hp
    · intro p hp
      simp only [lawSt, List.mem_cons, List.not_mem_nil, or_false] at hp
      rcases hp with rfl | rfl
      · exact ⟨C0, PySem.W.mg_of X G eA0, rfl, eX0, eK0, eB0, eT0⟩
      · exact ⟨C1, PySem.W.mg_of X G eA1, rfl, eX1, eK1, eB1, eT1⟩
    · intro c k b hb
      unfold lawSub at hb
      split at hb
      · rename_i hc
        cases hb
        simp only [Bool.and_eq_true, List.contains_iff_mem, List.mem_cons, List.not_mem_nil, or_false] at hc
        obtain ⟨h1, h2⟩ := hc
        rcases h1 with rfl | rfl <;> rcases h2 with rfl | rfl <;> first | exact errs_of eB0 eD0 eT0 eS0_0 eB0 eD0 eT0 eS0_0 | exact errs_of eB1 eD1 eT1 eS0_1 eB0 eD0 eT0 eS0_0 | exact errs_of eB0 eD0 eT0 eS1_0 eB1 eD1 eT1 eS1_1 | exact errs_of eB1 eD1 eT1 eS1_1 eB1 eD1 eT1 eS1_1
      · cases hb
    · intro c k b hb
      unfold lawSub at hb
      split at hb
      · rename_i hc
        simp only [Bool.and_eq_true, List.contains_iff_mem, List.mem_cons, List.not_mem_nil, or_false] at hc
        obtain ⟨h1, h2⟩ := hc
        rcases h1 with rfl | rfl
        · exact ⟨C0, rfl, ⟨eG0, eH0, eB0, eD0, eC0, eN, eQ, eM0⟩⟩
        · exact ⟨C1, rfl, ⟨eG1, eH1, eB1, eD1, eC1, eN, eQ, eM1⟩⟩
      · cases hb
  have F0 := fun_mk (st := top 4) l0 c0 k0
  have F1 := fun_mk (st := top 5) l1 c1 k1
  have F2 := fun_mk (st := top 6) l2 c2 k2
  have F3 := fun_mk (st := top 7) l3 c3 k3
  have F4 := fun_mk (st := top 8) l4 c4 k4
  have F5 := fun_mk (st := top 9) l5 c5 k5
  have F6 := fun_mk (st := top 10) l6 c6 k6
  have F7 := fun_mk (st := top 12) l7 c7 k7
  have F8 := fun_mk (st := top 13) l8 c8 k8
  have F9 := fun_mk (st := top 15) l9 c9 k9
  have F10 := fun_mk (st := top 16) l10 c10 k10
  have F11 := fun_mk (st := top 17) l11 c11 k11
  have F12 := fun_mk (st := top 18) l12 c12 k12
  have F13 := fun_mk (st := top 20) l13 c13 k13
  have F14 := fun_mk (st := top 21) l14 c14 k14
  have F15 := fun_mk (st := top 22) l15 c15 k15
  have F16 := fun_mk (st := top 23) l16 c16 k16
  have F17 := fun_mk (st := top 24) l17 c17 k17
  have F18 := fun_mk (st := top 25) l18 c18 k18
  have F19 := fun_mk (st := top 26) l19 c19 k19
  have F20 := fun_mk (st := top 27) l20 c20 k20
  have F21 := fun_mk (st := top 28) l21 c21 k21
  have F22 := fun_mk (st := top 29) l22 c22 k22
  have F23 := fun_mk (st := top 30) l23 c23 k23
  have F24 := fun_mk (st := top 31) l24 c24 k24
  have F25 := fun_mk (st := top 32) l25 c25 k25
  have F26 := fun_mk (st := top 33) l26 c26 k26
  have hd : ∀ d ∈ lawDs, chkD lawSt d.1 d.2 = true ∧ (∃ n, (d.1.id, d.1.name, n) ∈ lawSt.fn) ∧ DefAt K mg d.1 d.2 := by
    intro d hd
    have hc := List.all_eq_true.mp chk_ds d hd
    rw [Bool.and_eq_true] at hc
    refine ⟨hc.1, ?_, ?_⟩
    · obtain ⟨q, h1, h2⟩ := List.any_eq_true.mp hc.2
      simp only [Bool.and_eq_true, decide_eq_true_eq] at h2
      obtain ⟨q1, q2, q3⟩ := q
      refine ⟨q3, ?_⟩
      rw [← h2.1, ← h2.2]
      exact h1
    · simp only [lawDs, List.mem_cons, List.not_mem_nil, or_false] at hd
      rcases hd with rfl | rfl | rfl | rfl | rfl | rfl | rfl | rfl | rfl | rfl | rfl | rfl | rfl | rfl | rfl | rfl | rfl | rfl | rfl | rfl | rfl | rfl | rfl | rfl | rfl | rfl
      · exact ⟨f25, _, PySem.W.mg_of X G a25, F25, F25.binds (ps := d__law_drawn.ps) fun _ _ _ _ _ _ us hl => match us, hl with | [_, _, _], _ => rfl⟩
      · exact ⟨f24, _, PySem.W.mg_of X G a24, F24, F24.binds (ps := d__law_is_history.ps) fun _ _ _ _ _ _ us hl => match us, hl with | [_, _], _ => rfl⟩
      · exact ⟨f23, _, PySem.W.mg_of X G a23, F23, F23.binds (ps := d__law_keeps.ps) fun _ _ _ _ _ _ us hl => match us, hl with | [_, _], _ => rfl⟩
      · exact ⟨f22, _, PySem.W.mg_of X G a22, F22, F22.binds (ps := d__law_system.ps) fun _ _ _ _ _ _ us hl => match us, hl with | [_, _, _, _], _ => rfl⟩
      · exact ⟨f21, _, PySem.W.mg_of X G a21, F21, F21.binds (ps := d__law_bound.ps) fun _ _ _ _ _ _ us hl => match us, hl with | [_, _], _ => rfl⟩
      · exact ⟨f20, _, PySem.W.mg_of X G a20, F20, F20.binds (ps := d__law_row.ps) fun _ _ _ _ _ _ us hl => match us, hl with | [_, _, _], _ => rfl⟩
      · exact ⟨f19, _, PySem.W.mg_of X G a19, F19, F19.binds (ps := d__law_part.ps) fun _ _ _ _ _ _ us hl => match us, hl with | [_], _ => rfl⟩
      · exact ⟨f18, _, PySem.W.mg_of X G a18, F18, F18.binds (ps := d__law_product.ps) fun _ _ _ _ _ _ us hl => match us, hl with | [_, _], _ => rfl⟩
      · exact ⟨f17, _, PySem.W.mg_of X G a17, F17, F17.binds (ps := d__law_less.ps) fun _ _ _ _ _ _ us hl => match us, hl with | [_, _], _ => rfl⟩
      · exact ⟨f16, _, PySem.W.mg_of X G a16, F16, F16.binds (ps := d__law_times.ps) fun _ _ _ _ _ _ us hl => match us, hl with | [_, _], _ => rfl⟩
      · exact ⟨f15, _, PySem.W.mg_of X G a15, F15, F15.binds (ps := d__law_plus.ps) fun _ _ _ _ _ _ us hl => match us, hl with | [_, _], _ => rfl⟩
      · exact ⟨f14, _, PySem.W.mg_of X G a14, F14, F14.binds (ps := d__law_ratio_v2.ps) fun _ _ _ _ _ _ us hl => match us, hl with | [_, _], _ => rfl⟩
      · exact ⟨f13, _, PySem.W.mg_of X G a13, F13, F13.binds (ps := d__law_numbers.ps) fun _ _ _ _ _ _ us hl => match us, hl with | [_, _], _ => rfl⟩
      · exact ⟨f12, _, PySem.W.mg_of X G a12, F12, F12.binds (ps := d_is_history.ps) fun _ _ _ _ _ _ us hl => match us, hl with | [_, _], _ => rfl⟩
      · exact ⟨f11, _, PySem.W.mg_of X G a11, F11, F11.binds (ps := d_is_positive.ps) fun _ _ _ _ _ _ us hl => match us, hl with | [_, _], _ => rfl⟩
      · exact ⟨f10, _, PySem.W.mg_of X G a10, F10, F10.binds (ps := d_keeps.ps) fun _ _ _ _ _ _ us hl => match us, hl with | [_, _], _ => rfl⟩
      · exact ⟨f9, _, PySem.W.mg_of X G a9, F9, F9.binds (ps := d_is_kept.ps) fun _ _ _ _ _ _ us hl => match us, hl with | [_, _, _], _ => rfl⟩
      · exact ⟨f8, _, PySem.W.mg_of X G a8, F8, F8.binds (ps := d_product.ps) fun _ _ _ _ _ _ us hl => match us, hl with | [_, _], _ => rfl⟩
      · exact ⟨f7, _, PySem.W.mg_of X G a7, F7, F7.binds (ps := d_check_widths.ps) fun _ _ _ _ _ _ us hl => match us, hl with | [_, _], _ => rfl⟩
      · exact ⟨f6, _, PySem.W.mg_of X G a6, F6, F6.binds (ps := d_compare.ps) fun _ _ _ _ _ _ us hl => match us, hl with | [_, _], _ => rfl⟩
      · exact ⟨f5, _, PySem.W.mg_of X G a5, F5, F5.binds (ps := d_sign_of.ps) fun _ _ _ _ _ _ us hl => match us, hl with | [_], _ => rfl⟩
      · exact ⟨f4, _, PySem.W.mg_of X G a4, F4, F4.binds (ps := d_times.ps) fun _ _ _ _ _ _ us hl => match us, hl with | [_, _], _ => rfl⟩
      · exact ⟨f3, _, PySem.W.mg_of X G a3, F3, F3.binds (ps := d_plus.ps) fun _ _ _ _ _ _ us hl => match us, hl with | [_, _], _ => rfl⟩
      · exact ⟨f2, _, PySem.W.mg_of X G a2, F2, F2.binds (ps := d_of_int.ps) fun _ _ _ _ _ _ us hl => match us, hl with | [_], _ => rfl⟩
      · exact ⟨f1, _, PySem.W.mg_of X G a1, F1, F1.binds (ps := d_ratio.ps) fun _ _ _ _ _ _ us hl => match us, hl with | [_, _], _ => rfl⟩
      · exact ⟨f0, _, PySem.W.mg_of X G a0, F0, F0.binds (ps := d_common.ps) fun _ _ _ _ _ _ us hl => match us, hl with | [_, _], _ => rfl⟩
  exact ⟨_, fun s v => .of_eq rfl, cls, fun base _ _ => law_ok (d := d_law) (ds := lawDs) pf chk_fn hd chk_law F26⟩
/-- the law's promise -/
def lawSp (K : PySem.W.Frag) : Sp := fun vs H Q E => ∀ cls, spF K cls 1 (d_law.fn.run (envOf lawSub 1000000 (lawDs.map (·.1))) lawSub 1000000) vs H Q E
theorem lawSp_of {K : PySem.W.Frag} {H : Hp} {a : Addr} {ns : List Int} (hS : SqL K H a (ns.map V.int)) (h : d_law.fn.run (envOf lawSub 1000000 (lawDs.map (·.1))) lawSub 1000000 [scrOf ns] = .ok (.val (.bl true))) : lawSp K [.ref a] H (fun v _ => v = .bl true) fun _ _ _ => False := fun cls => law_sp hS h
theorem all_mk' {l : PySem.W.OpenLaw} {w : World} {K : PySem.W.Frag} {h : Heap} {mg : Str → Option Value} {fa : Addr} (X : K.In h) (G : h.Ns mainGlobals mg) (hfa : mg "law" = some (.ref fa))
    {f0 f1 f2 f3 f4 f5 f6 f7 f8 f9 f10 f11 f12 f13 f14 f15 f16 f17 f18 f19 f20 f21 f22 f23 f24 f25 f26 C0 C1 : Addr} {od0 an0 od1 an1 od2 an2 od3 an3 od4 an4 od5 an5 od6 an6 od7 an7 od8 an8 od9 an9 od10 an10 od11 an11 od12 an12 od13 an13 od14 an14 od15 an15 od16 an16 od17 an17 od18 an18 od19 an19 od20 an20 od21 an21 od22 an22 od23 an23 od24 an24 od25 an25 od26 an26 : Option Addr} {sl0 sl1 sl2 sl3 sl4 sl5 sl6 sl7 sl8 sl9 sl10 sl11 sl12 sl13 sl14 sl15 sl16 sl17 sl18 sl19 sl20 sl21 sl22 sl23 sl24 sl25 sl26 : Array (Option Value)} {oc0 kV0 dc0 pm0 cd0 ct0 oc1 kV1 dc1 pm1 cd1 ct1 oc2 kV2 dc2 pm2 cd2 ct2 oc3 kV3 dc3 pm3 cd3 ct3 oc4 kV4 dc4 pm4 cd4 ct4 oc5 kV5 dc5 pm5 cd5 ct5 oc6 kV6 dc6 pm6 cd6 ct6 oc7 kV7 dc7 pm7 cd7 ct7 oc8 kV8 dc8 pm8 cd8 ct8 oc9 kV9 dc9 pm9 cd9 ct9 oc10 kV10 dc10 pm10 cd10 ct10 oc11 kV11 dc11 pm11 cd11 ct11 oc12 kV12 dc12 pm12 cd12 ct12 oc13 kV13 dc13 pm13 cd13 ct13 oc14 kV14 dc14 pm14 cd14 ct14 oc15 kV15 dc15 pm15 cd15 ct15 oc16 kV16 dc16 pm16 cd16 ct16 oc17 kV17 dc17 pm17 cd17 ct17 oc18 kV18 dc18 pm18 cd18 ct18 oc19 kV19 dc19 pm19 cd19 ct19 oc20 kV20 dc20 pm20 cd20 ct20 oc21 kV21 dc21 pm21 cd21 ct21 oc22 kV22 dc22 pm22 cd22 ct22 oc23 kV23 dc23 pm23 cd23 ct23 oc24 kV24 dc24 pm24 cd24 ct24 oc25 kV25 dc25 pm25 cd25 ct25 oc26 kV26 dc26 pm26 cd26 ct26 : Value} 
    (a0 : PySem.W.nsIn K mainGlobals "common" = some (some (.ref f0)))
    (l0 : K.lookup f0 = some ⟨oc0, od0, .func (PySem.W.fnOf "common" "common" (defArgs (top 4)) (defBody (top 4)) (defScope (top 4)) .none kV0 dc0 pm0 an0 cd0 ct0), sl0⟩)
    (c0 : PySem.W.codeIn K cd0 "common" = true)
    (k0 : PySem.W.keepIn K (.ref f0) = true)
    (a1 : PySem.W.nsIn K mainGlobals "ratio" = some (some (.ref f1)))
    (l1 : K.lookup f1 = some ⟨oc1, od1, .func (PySem.W.fnOf "ratio" "ratio" (defArgs (top 5)) (defBody (top 5)) (defScope (top 5)) .none kV1 dc1 pm1 an1 cd1 ct1), sl1⟩)
    (c1 : PySem.W.codeIn K cd1 "ratio" = true)
    (k1 : PySem.W.keepIn K (.ref f1) = true)
    (a2 : PySem.W.nsIn K mainGlobals "of_int" = some (some (.ref f2)))
    (l2 : K.lookup f2 = some ⟨oc2, od2, .func (PySem.W.fnOf "of_int" "of_int" (defArgs (top 6)) (defBody (top 6)) (defScope (top 6)) .none kV2 dc2 pm2 an2 cd2 ct2), sl2⟩)
    (c2 : PySem.W.codeIn K cd2 "of_int" = true)
    (k2 : PySem.W.keepIn K (.ref f2) = true)
    (a3 : PySem.W.nsIn K mainGlobals "plus" = some (some (.ref f3)))
    (l3 : K.lookup f3 = some ⟨oc3, od3, .func (PySem.W.fnOf "plus" "plus" (defArgs (top 7)) (defBody (top 7)) (defScope (top 7)) .none kV3 dc3 pm3 an3 cd3 ct3), sl3⟩)
    (c3 : PySem.W.codeIn K cd3 "plus" = true)
    (k3 : PySem.W.keepIn K (.ref f3) = true)
    (a4 : PySem.W.nsIn K mainGlobals "times" = some (some (.ref f4)))
    (l4 : K.lookup f4 = some ⟨oc4, od4, .func (PySem.W.fnOf "times" "times" (defArgs (top 8)) (defBody (top 8)) (defScope (top 8)) .none kV4 dc4 pm4 an4 cd4 ct4), sl4⟩)
    (c4 : PySem.W.codeIn K cd4 "times" = true)
    (k4 : PySem.W.keepIn K (.ref f4) = true)
    (a5 : PySem.W.nsIn K mainGlobals "sign_of" = some (some (.ref f5)))
    (l5 : K.lookup f5 = some ⟨oc5, od5, .func (PySem.W.fnOf "sign_of" "sign_of" (defArgs (top 9)) (defBody (top 9)) (defScope (top 9)) .none kV5 dc5 pm5 an5 cd5 ct5), sl5⟩)
    (c5 : PySem.W.codeIn K cd5 "sign_of" = true)
    (k5 : PySem.W.keepIn K (.ref f5) = true)
    (a6 : PySem.W.nsIn K mainGlobals "compare" = some (some (.ref f6)))
    (l6 : K.lookup f6 = some ⟨oc6, od6, .func (PySem.W.fnOf "compare" "compare" (defArgs (top 10)) (defBody (top 10)) (defScope (top 10)) .none kV6 dc6 pm6 an6 cd6 ct6), sl6⟩)
    (c6 : PySem.W.codeIn K cd6 "compare" = true)
    (k6 : PySem.W.keepIn K (.ref f6) = true)
    (a7 : PySem.W.nsIn K mainGlobals "check_widths" = some (some (.ref f7)))
    (l7 : K.lookup f7 = some ⟨oc7, od7, .func (PySem.W.fnOf "check_widths" "check_widths" (defArgs (top 12)) (defBody (top 12)) (defScope (top 12)) .none kV7 dc7 pm7 an7 cd7 ct7), sl7⟩)
    (c7 : PySem.W.codeIn K cd7 "check_widths" = true)
    (k7 : PySem.W.keepIn K (.ref f7) = true)
    (a8 : PySem.W.nsIn K mainGlobals "product" = some (some (.ref f8)))
    (l8 : K.lookup f8 = some ⟨oc8, od8, .func (PySem.W.fnOf "product" "product" (defArgs (top 13)) (defBody (top 13)) (defScope (top 13)) .none kV8 dc8 pm8 an8 cd8 ct8), sl8⟩)
    (c8 : PySem.W.codeIn K cd8 "product" = true)
    (k8 : PySem.W.keepIn K (.ref f8) = true)
    (a9 : PySem.W.nsIn K mainGlobals "is_kept" = some (some (.ref f9)))
    (l9 : K.lookup f9 = some ⟨oc9, od9, .func (PySem.W.fnOf "is_kept" "is_kept" (defArgs (top 15)) (defBody (top 15)) (defScope (top 15)) .none kV9 dc9 pm9 an9 cd9 ct9), sl9⟩)
    (c9 : PySem.W.codeIn K cd9 "is_kept" = true)
    (k9 : PySem.W.keepIn K (.ref f9) = true)
    (a10 : PySem.W.nsIn K mainGlobals "keeps" = some (some (.ref f10)))
    (l10 : K.lookup f10 = some ⟨oc10, od10, .func (PySem.W.fnOf "keeps" "keeps" (defArgs (top 16)) (defBody (top 16)) (defScope (top 16)) .none kV10 dc10 pm10 an10 cd10 ct10), sl10⟩)
    (c10 : PySem.W.codeIn K cd10 "keeps" = true)
    (k10 : PySem.W.keepIn K (.ref f10) = true)
    (a11 : PySem.W.nsIn K mainGlobals "is_positive" = some (some (.ref f11)))
    (l11 : K.lookup f11 = some ⟨oc11, od11, .func (PySem.W.fnOf "is_positive" "is_positive" (defArgs (top 17)) (defBody (top 17)) (defScope (top 17)) .none kV11 dc11 pm11 an11 cd11 ct11), sl11⟩)
    (c11 : PySem.W.codeIn K cd11 "is_positive" = true)
    (k11 : PySem.W.keepIn K (.ref f11) = true)
    (a12 : PySem.W.nsIn K mainGlobals "is_history" = some (some (.ref f12)))
    (l12 : K.lookup f12 = some ⟨oc12, od12, .func (PySem.W.fnOf "is_history" "is_history" (defArgs (top 18)) (defBody (top 18)) (defScope (top 18)) .none kV12 dc12 pm12 an12 cd12 ct12), sl12⟩)
    (c12 : PySem.W.codeIn K cd12 "is_history" = true)
    (k12 : PySem.W.keepIn K (.ref f12) = true)
    (a13 : PySem.W.nsIn K mainGlobals "_law_numbers" = some (some (.ref f13)))
    (l13 : K.lookup f13 = some ⟨oc13, od13, .func (PySem.W.fnOf "_law_numbers" "_law_numbers" (defArgs (top 20)) (defBody (top 20)) (defScope (top 20)) .none kV13 dc13 pm13 an13 cd13 ct13), sl13⟩)
    (c13 : PySem.W.codeIn K cd13 "_law_numbers" = true)
    (k13 : PySem.W.keepIn K (.ref f13) = true)
    (a14 : PySem.W.nsIn K mainGlobals "_law_ratio" = some (some (.ref f14)))
    (l14 : K.lookup f14 = some ⟨oc14, od14, .func (PySem.W.fnOf "_law_ratio" "_law_ratio" (defArgs (top 21)) (defBody (top 21)) (defScope (top 21)) .none kV14 dc14 pm14 an14 cd14 ct14), sl14⟩)
    (c14 : PySem.W.codeIn K cd14 "_law_ratio" = true)
    (k14 : PySem.W.keepIn K (.ref f14) = true)
    (a15 : PySem.W.nsIn K mainGlobals "_law_plus" = some (some (.ref f15)))
    (l15 : K.lookup f15 = some ⟨oc15, od15, .func (PySem.W.fnOf "_law_plus" "_law_plus" (defArgs (top 22)) (defBody (top 22)) (defScope (top 22)) .none kV15 dc15 pm15 an15 cd15 ct15), sl15⟩)
    (c15 : PySem.W.codeIn K cd15 "_law_plus" = true)
    (k15 : PySem.W.keepIn K (.ref f15) = true)
    (a16 : PySem.W.nsIn K mainGlobals "_law_times" = some (some (.ref f16)))
    (l16 : K.lookup f16 = some ⟨oc16, od16, .func (PySem.W.fnOf "_law_times" "_law_times" (defArgs (top 23)) (defBody (top 23)) (defScope (top 23)) .none kV16 dc16 pm16 an16 cd16 ct16), sl16⟩)
    (c16 : PySem.W.codeIn K cd16 "_law_times" = true)
    (k16 : PySem.W.keepIn K (.ref f16) = true)
    (a17 : PySem.W.nsIn K mainGlobals "_law_less" = some (some (.ref f17)))
    (l17 : K.lookup f17 = some ⟨oc17, od17, .func (PySem.W.fnOf "_law_less" "_law_less" (defArgs (top 24)) (defBody (top 24)) (defScope (top 24)) .none kV17 dc17 pm17 an17 cd17 ct17), sl17⟩)
    (c17 : PySem.W.codeIn K cd17 "_law_less" = true)
    (k17 : PySem.W.keepIn K (.ref f17) = true)
    (a18 : PySem.W.nsIn K mainGlobals "_law_product" = some (some (.ref f18)))
    (l18 : K.lookup f18 = some ⟨oc18, od18, .func (PySem.W.fnOf "_law_product" "_law_product" (defArgs (top 25)) (defBody (top 25)) (defScope (top 25)) .none kV18 dc18 pm18 an18 cd18 ct18), sl18⟩)
    (c18 : PySem.W.codeIn K cd18 "_law_product" = true)
    (k18 : PySem.W.keepIn K (.ref f18) = true)
    (a19 : PySem.W.nsIn K mainGlobals "_law_part" = some (some (.ref f19)))
    (l19 : K.lookup f19 = some ⟨oc19, od19, .func (PySem.W.fnOf "_law_part" "_law_part" (defArgs (top 26)) (defBody (top 26)) (defScope (top 26)) .none kV19 dc19 pm19 an19 cd19 ct19), sl19⟩)
    (c19 : PySem.W.codeIn K cd19 "_law_part" = true)
    (k19 : PySem.W.keepIn K (.ref f19) = true)
    (a20 : PySem.W.nsIn K mainGlobals "_law_row" = some (some (.ref f20)))
    (l20 : K.lookup f20 = some ⟨oc20, od20, .func (PySem.W.fnOf "_law_row" "_law_row" (defArgs (top 27)) (defBody (top 27)) (defScope (top 27)) .none kV20 dc20 pm20 an20 cd20 ct20), sl20⟩)
    (c20 : PySem.W.codeIn K cd20 "_law_row" = true)
    (k20 : PySem.W.keepIn K (.ref f20) = true)
    (a21 : PySem.W.nsIn K mainGlobals "_law_bound" = some (some (.ref f21)))
    (l21 : K.lookup f21 = some ⟨oc21, od21, .func (PySem.W.fnOf "_law_bound" "_law_bound" (defArgs (top 28)) (defBody (top 28)) (defScope (top 28)) .none kV21 dc21 pm21 an21 cd21 ct21), sl21⟩)
    (c21 : PySem.W.codeIn K cd21 "_law_bound" = true)
    (k21 : PySem.W.keepIn K (.ref f21) = true)
    (a22 : PySem.W.nsIn K mainGlobals "_law_system" = some (some (.ref f22)))
    (l22 : K.lookup f22 = some ⟨oc22, od22, .func (PySem.W.fnOf "_law_system" "_law_system" (defArgs (top 29)) (defBody (top 29)) (defScope (top 29)) .none kV22 dc22 pm22 an22 cd22 ct22), sl22⟩)
    (c22 : PySem.W.codeIn K cd22 "_law_system" = true)
    (k22 : PySem.W.keepIn K (.ref f22) = true)
    (a23 : PySem.W.nsIn K mainGlobals "_law_keeps" = some (some (.ref f23)))
    (l23 : K.lookup f23 = some ⟨oc23, od23, .func (PySem.W.fnOf "_law_keeps" "_law_keeps" (defArgs (top 30)) (defBody (top 30)) (defScope (top 30)) .none kV23 dc23 pm23 an23 cd23 ct23), sl23⟩)
    (c23 : PySem.W.codeIn K cd23 "_law_keeps" = true)
    (k23 : PySem.W.keepIn K (.ref f23) = true)
    (a24 : PySem.W.nsIn K mainGlobals "_law_is_history" = some (some (.ref f24)))
    (l24 : K.lookup f24 = some ⟨oc24, od24, .func (PySem.W.fnOf "_law_is_history" "_law_is_history" (defArgs (top 31)) (defBody (top 31)) (defScope (top 31)) .none kV24 dc24 pm24 an24 cd24 ct24), sl24⟩)
    (c24 : PySem.W.codeIn K cd24 "_law_is_history" = true)
    (k24 : PySem.W.keepIn K (.ref f24) = true)
    (a25 : PySem.W.nsIn K mainGlobals "_law_drawn" = some (some (.ref f25)))
    (l25 : K.lookup f25 = some ⟨oc25, od25, .func (PySem.W.fnOf "_law_drawn" "_law_drawn" (defArgs (top 32)) (defBody (top 32)) (defScope (top 32)) .none kV25 dc25 pm25 an25 cd25 ct25), sl25⟩)
    (c25 : PySem.W.codeIn K cd25 "_law_drawn" = true)
    (k25 : PySem.W.keepIn K (.ref f25) = true)
    (a26 : PySem.W.nsIn K mainGlobals "law" = some (some (.ref f26)))
    (l26 : K.lookup f26 = some ⟨oc26, od26, .func (PySem.W.fnOf "law" "law" (defArgs (top 33)) (defBody (top 33)) (defScope (top 33)) .none kV26 dc26 pm26 an26 cd26 ct26), sl26⟩)
    (c26 : PySem.W.codeIn K cd26 "law" = true)
    (k26 : PySem.W.keepIn K (.ref f26) = true)
    (eA0 : PySem.W.nsIn K mainGlobals "KerbError" = some (some (.ref C0)))
    (eX0 : PySem.W.excIn K C0 [.type "ValueError", .type "Exception", .type "BaseException", .type "object"] "ValueError.__new__" = true)
    (eK0 : PySem.W.keepIn K (.ref C0) = true)
    (eB0 : PySem.W.subIn K (.ref C0) (.type "BaseException") = some true)
    (eT0 : PySem.W.typeIn K (.ref C0) = some (.type "type"))
    (eG0 : PySem.W.findIn K (.ref C0) "__getattribute__" = some (some (.builtin "BaseException.__getattribute__")))
    (eH0 : PySem.W.findIn K (.ref C0) "__getattr__" = some none)
    (eD0 : PySem.W.hasDictIn K C0 = true)
    (eC0 : PySem.W.findIn K (.ref C0) "__class__" = some (some (.builtin "object.__class__")))
    (eM0 : PySem.W.mroIn K C0 (.type "object") = some true)
    (eS0_0 : PySem.W.subIn K (.ref C0) (.ref C0) = some true)
    (eS0_1 : PySem.W.subIn K (.ref C0) (.ref C1) = some false)
    (eA1 : PySem.W.nsIn K mainGlobals "NotAllowed" = some (some (.ref C1)))
    (eX1 : PySem.W.excIn K C1 [.type "ValueError", .type "Exception", .type "BaseException", .type "object"] "ValueError.__new__" = true)
    (eK1 : PySem.W.keepIn K (.ref C1) = true)
    (eB1 : PySem.W.subIn K (.ref C1) (.type "BaseException") = some true)
    (eT1 : PySem.W.typeIn K (.ref C1) = some (.type "type"))
    (eG1 : PySem.W.findIn K (.ref C1) "__getattribute__" = some (some (.builtin "BaseException.__getattribute__")))
    (eH1 : PySem.W.findIn K (.ref C1) "__getattr__" = some none)
    (eD1 : PySem.W.hasDictIn K C1 = true)
    (eC1 : PySem.W.findIn K (.ref C1) "__class__" = some (some (.builtin "object.__class__")))
    (eM1 : PySem.W.mroIn K C1 (.type "object") = some true)
    (eS1_0 : PySem.W.subIn K (.ref C1) (.ref C0) = some true)
    (eS1_1 : PySem.W.subIn K (.ref C1) (.ref C1) = some true)
    (eN : PySem.W.specialIn K (.builtin "object.__class__") "__get__" = some (some (.builtin "getset_descriptor.__get__")))
    (eQ : PySem.W.takesIn K (.builtin "object.__class__") = some true)
    (z0 : PySem.W.nsIn K mainGlobals "abs" = some none)
    (z1 : PySem.W.nsIn K mainGlobals "all" = some none)
    (z2 : PySem.W.nsIn K mainGlobals "bool" = some none)
    (z3 : PySem.W.nsIn K mainGlobals "int" = some none)
    (z4 : PySem.W.nsIn K mainGlobals "isinstance" = some none)
    (z5 : PySem.W.nsIn K mainGlobals "len" = some none)
    (z6 : PySem.W.nsIn K mainGlobals "max" = some none)
    (z7 : PySem.W.nsIn K mainGlobals "range" = some none)
    (z8 : PySem.W.nsIn K mainGlobals "tuple" = some none)
    (z9 : PySem.W.nsIn K mainGlobals "zip" = some none) :
    ∃ fd : FuncData, (∀ (s : Shared) (v : Value), BindsTo s fd ⟨[v], []⟩ [("_law_script", v)]) ∧ ∀ base : Heap, K.In base → base.Ns mainGlobals mg → FnOk l.prog w K mg base (L2.CX l.prog w) 27 fa fd ["_law_script"] (lawSp K) := by
  obtain ⟨fd, h1, cls, h2⟩ := all_mk (l := l) (w := w) (fuel := 1000000) X G hfa a0 l0 c0 k0 a1 l1 c1 k1 a2 l2 c2 k2 a3 l3 c3 k3 a4 l4 c4 k4 a5 l5 c5 k5 a6 l6 c6 k6 a7 l7 c7 k7 a8 l8 c8 k8 a9 l9 c9 k9 a10 l10 c10 k10 a11 l11 c11 k11 a12 l12 c12 k12 a13 l13 c13 k13 a14 l14 c14 k14 a15 l15 c15 k15 a16 l16 c16 k16 a17 l17 c17 k17 a18 l18 c18 k18 a19 l19 c19 k19 a20 l20 c20 k20 a21 l21 c21 k21 a22 l22 c22 k22 a23 l23 c23 k23 a24 l24 c24 k24 a25 l25 c25 k25 a26 l26 c26 k26 eA0 eX0 eK0 eB0 eT0 eG0 eH0 eD0 eC0 eM0 eS0_0 eS0_1 eA1 eX1 eK1 eB1 eT1 eG1 eH1 eD1 eC1 eM1 eS1_0 eS1_1 eN eQ z0 z1 z2 z3 z4 z5 z6 z7 z8 z9
  exact ⟨fd, h1, fun base hb hg => (h2 base hb hg).imp fun vs H Q E q => q cls⟩
end
end EV
open PySem PySem.W PyProof.Rows
set_option maxHeartbeats 0 in
theorem PySem.Challenge.cw_kerbside_k11_histories_holds : PySem.Challenge.rw_kerbside_k11_histories.Holds := by
  w_on; o_law; k_head; (case hw => w_witness2)
  k_fill
  refine EV.walk_ofX (l := PySem.Challenge.rw_kerbside_k11_histories) (n := 63) (k := 27) (x := "_law_script") (sp := EV.lawSp) rfl (by decide) rfl ⟨rfl, by decide, by decide⟩ (fun w h Y => PySem.W.kIn_of Y) ?F (fun K H a ns hl hS => EV.lawSp_of hS (EV.pure_law ns hl))
  case F =>
    intro w mg fa h KX G hmg
    refine' EV.all_mk' KX G hmg ?a0 ?l0 ?c0 ?k0 ?a1 ?l1 ?c1 ?k1 ?a2 ?l2 ?c2 ?k2 ?a3 ?l3 ?c3 ?k3 ?a4 ?l4 ?c4 ?k4 ?a5 ?l5 ?c5 ?k5 ?a6 ?l6 ?c6 ?k6 ?a7 ?l7 ?c7 ?k7 ?a8 ?l8 ?c8 ?k8 ?a9 ?l9 ?c9 ?k9 ?a10 ?l10 ?c10 ?k10 ?a11 ?l11 ?c11 ?k11 ?a12 ?l12 ?c12 ?k12 ?a13 ?l13 ?c13 ?k13 ?a14 ?l14 ?c14 ?k14 ?a15 ?l15 ?c15 ?k15 ?a16 ?l16 ?c16 ?k16 ?a17 ?l17 ?c17 ?k17 ?a18 ?l18 ?c18 ?k18 ?a19 ?l19 ?c19 ?k19 ?a20 ?l20 ?c20 ?k20 ?a21 ?l21 ?c21 ?k21 ?a22 ?l22 ?c22 ?k22 ?a23 ?l23 ?c23 ?k23 ?a24 ?l24 ?c24 ?k24 ?a25 ?l25 ?c25 ?k25 ?a26 ?l26 ?c26 ?k26 ?eA0 ?eX0 ?eK0 ?eB0 ?eT0 ?eG0 ?eH0 ?eD0 ?eC0 ?eM0 ?eS0_0 ?eS0_1 ?eA1 ?eX1 ?eK1 ?eB1 ?eT1 ?eG1 ?eH1 ?eD1 ?eC1 ?eM1 ?eS1_0 ?eS1_1 ?eN ?eQ ?z0 ?z1 ?z2 ?z3 ?z4 ?z5 ?z6 ?z7 ?z8 ?z9
    (case a0 => k_is)
    (case a1 => k_is)
    (case a2 => k_is)
    (case a3 => k_is)
    (case a4 => k_is)
    (case a5 => k_is)
    (case a6 => k_is)
    (case a7 => k_is)
    (case a8 => k_is)
    (case a9 => k_is)
    (case a10 => k_is)
    (case a11 => k_is)
    (case a12 => k_is)
    (case a13 => k_is)
    (case a14 => k_is)
    (case a15 => k_is)
    (case a16 => k_is)
    (case a17 => k_is)
    (case a18 => k_is)
    (case a19 => k_is)
    (case a20 => k_is)
    (case a21 => k_is)
    (case a22 => k_is)
    (case a23 => k_is)
    (case a24 => k_is)
    (case a25 => k_is)
    (case a26 => k_is)
    (case eA0 => k_is)
    (case eA1 => k_is)
    (case l0 => k_is)
    (case c0 => k_is)
    (case k0 => k_is)
    (case l1 => k_is)
    (case c1 => k_is)
    (case k1 => k_is)
    (case l2 => k_is)
    (case c2 => k_is)
    (case k2 => k_is)
    (case l3 => k_is)
    (case c3 => k_is)
    (case k3 => k_is)
    (case l4 => k_is)
    (case c4 => k_is)
    (case k4 => k_is)
    (case l5 => k_is)
    (case c5 => k_is)
    (case k5 => k_is)
    (case l6 => k_is)
    (case c6 => k_is)
    (case k6 => k_is)
    (case l7 => k_is)
    (case c7 => k_is)
    (case k7 => k_is)
    (case l8 => k_is)
    (case c8 => k_is)
    (case k8 => k_is)
    (case l9 => k_is)
    (case c9 => k_is)
    (case k9 => k_is)
    (case l10 => k_is)
    (case c10 => k_is)
    (case k10 => k_is)
    (case l11 => k_is)
    (case c11 => k_is)
    (case k11 => k_is)
    (case l12 => k_is)
    (case c12 => k_is)
    (case k12 => k_is)
    (case l13 => k_is)
    (case c13 => k_is)
    (case k13 => k_is)
    (case l14 => k_is)
    (case c14 => k_is)
    (case k14 => k_is)
    (case l15 => k_is)
    (case c15 => k_is)
    (case k15 => k_is)
    (case l16 => k_is)
    (case c16 => k_is)
    (case k16 => k_is)
    (case l17 => k_is)
    (case c17 => k_is)
    (case k17 => k_is)
    (case l18 => k_is)
    (case c18 => k_is)
    (case k18 => k_is)
    (case l19 => k_is)
    (case c19 => k_is)
    (case k19 => k_is)
    (case l20 => k_is)
    (case c20 => k_is)
    (case k20 => k_is)
    (case l21 => k_is)
    (case c21 => k_is)
    (case k21 => k_is)
    (case l22 => k_is)
    (case c22 => k_is)
    (case k22 => k_is)
    (case l23 => k_is)
    (case c23 => k_is)
    (case k23 => k_is)
    (case l24 => k_is)
    (case c24 => k_is)
    (case k24 => k_is)
    (case l25 => k_is)
    (case c25 => k_is)
    (case k25 => k_is)
    (case l26 => k_is)
    (case c26 => k_is)
    (case k26 => k_is)
    (case eX0 => first | k_is | k_exc)
    (case eK0 => k_is)
    (case eB0 => k_is)
    (case eT0 => k_is)
    (case eG0 => k_is)
    (case eH0 => k_is)
    (case eD0 => k_is)
    (case eC0 => k_is)
    (case eM0 => k_is)
    (case eX1 => first | k_is | k_exc)
    (case eK1 => k_is)
    (case eB1 => k_is)
    (case eT1 => k_is)
    (case eG1 => k_is)
    (case eH1 => k_is)
    (case eD1 => k_is)
    (case eC1 => k_is)
    (case eM1 => k_is)
    (case eN => k_is)
    (case eQ => k_is)
    (case z0 => k_is)
    (case z1 => k_is)
    (case z2 => k_is)
    (case z3 => k_is)
    (case z4 => k_is)
    (case z5 => k_is)
    (case z6 => k_is)
    (case z7 => k_is)
    (case z8 => k_is)
    (case z9 => k_is)
    (case eS0_0 => first | rfl | k_is)
    (case eS0_1 => first | rfl | k_is)
    (case eS1_0 => first | rfl | k_is)
    (case eS1_1 => first | rfl | k_is)

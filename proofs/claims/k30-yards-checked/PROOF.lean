import PyProof.Rows.All
import Wide.All
import OpenK.AllK
import Wide.FinOn
import PySem.Challenge.RW_kerbside_k30_yards_checked
import PySem.Syntax
import HandS.Text
import HandS.StrSplit
import HandS.TupSets
import HandS.More
import HandS.Conv
import HandS.FStr
import HandS.SortInts
import HandS.ForMost
import HandS.Exc
import HandS.TryOnly
import HandS.TryMany
import HandS.ExcOwn
import HandS.WordsExc
import HandS.CallSlots
import HandS.ExcIs
import HandS.Wide
import HandS.TupAny
import HandS.Style
import HandS.Deep
import HandS.Walk
import HandS.Zip
import HandS.IsInst
import HandS.Steps
import HandS.SetFor
import HandS.TupMul
import HandS.Defaults
import KE.GoesEnum
set_option linter.all false
set_option autoImplicit false
/-! EwA: data, a small syntax, and its evaluator. Lists are values; a list that one slot owns may change; objects, and lists that many hold, stand in a store. -/
namespace EV
open PySem (Str Operator CmpOp)

/-- the longest list or text -/
abbrev line : Nat := 16777216

inductive D where
  | non | bl (b : Bool) | int (i : Int) | str (s : Str) | tup (xs : List D) | lst (xs : List D)
  /-- the script -/
  | scr (xs : List D)
  /-- what stands in the store at n -/
  | obj (n : Nat)
  deriving Inhabited

/-- what stands in the store: an instance of the class c, a list, a dict of texts -/
inductive Ob where
  | inst (c : Nat) (fs : List (Option D)) | lst (xs : List D) | dic (kvs : List (Str × D))
abbrev Store := List Ob

/-- what an expression gives: data; a new list that nobody else holds; a list that a slot owns -/
inductive R where
  | val (d : D) | own (xs : List D) | bor (xs : List D)
/-- what a slot holds -/
inductive S where
  | emp | val (d : D) | own (xs : List D) | exc (c : Nat)
inductive Out (α : Type) where
  | ok (a : α) (st : Store) | ex (c : Nat) (st : Store) | bad
def M (α : Type) : Type := Store → Out α
namespace M
variable {α β : Type}
def ok (a : α) : M α := fun st => .ok a st
def ex (c : Nat) : M α := fun st => .ex c st
def bad : M α := fun _ => .bad
def bind (m : M α) (f : α → M β) : M β := fun st => match m st with
  | .ok a st' => f a st'
  | .ex c st' => .ex c st'
  | .bad => .bad
/-- the store, read -/
def get (f : Store → M α) : M α := fun st => f st st
/-- the store, written -/
def put (st : Store) : M Unit := fun _ => .ok () st
end M

/-! ### equality, as == has it -/
mutual
def eqD : D → D → Bool
  | .non, .non => true
  | .bl a, .bl b => a == b
  | .bl a, .int j => (if a then 1 else 0) == j
  | .int i, .bl b => i == (if b then 1 else 0)
  | .int i, .int j => i == j
  | .str x, .str y => x == y
  | .lst xs, .lst ys => eqDs xs ys
  | .tup xs, .tup ys => eqDs xs ys
  | _, _ => false
def eqDs : List D → List D → Bool
  | [], [] => true
  | x :: xs, y :: ys => eqD x y && eqDs xs ys
  | _, _ => false
end
def strOk (x : Str) : Bool := x.cps.all (· < 0x110000)
/-- data of at most n storeys -/
def wf : Nat → D → Bool
  | _, .non => true
  | _, .bl _ => true
  | _, .int _ => true
  | _, .str s => strOk s
  | 0, .tup _ => false
  | 0, .lst _ => false
  | _, .scr _ => false
  | _, .obj _ => false
  | n + 1, .tup xs => xs.all (wf n)
  | n + 1, .lst xs => xs.all (wf n)
mutual
/-- what of the store it leans on stands below n -/
def low (n : Nat) : D → Bool
  | .obj m => decide (m < n)
  | .tup xs => lows n xs
  | .lst xs => lows n xs
  | .scr xs => lows n xs
  | _ => true
def lows (n : Nat) : List D → Bool
  | [] => true
  | x :: xs => low n x && lows n xs
end

/-! ### operators -/
/-- what a reader sees -/
def R.view : R → D
  | .val d => d
  | .own xs => .lst xs
  | .bor xs => .lst xs
/-- the value that is handed on: a new list is held from then on by many -/
def R.fix : R → M D
  | .val d => .ok d
  | .own xs => .ok (.lst xs)
  | .bor _ => .bad
/-- a slot's end, or any start of a slice -/
def sIx (n d : Nat) : Option Int → Nat
  | none => d
  | some v => if v < 0 then (v + (n : Int)).toNat else min v.toNat n
def cut {α : Type} (xs : List α) (lo hi : Option Int) : List α := (xs.drop (sIx xs.length 0 lo)).take (sIx xs.length xs.length hi - sIx xs.length 0 lo)
def ixN (n : Nat) (i : Int) : Option Nat := if 0 ≤ i then (if i < n then some i.toNat else none) else if -(n : Int) ≤ i then some (i + n).toNat else none
def atI {α : Type} (xs : List α) (i : Int) : Option α := (ixN xs.length i).bind fun j => xs[j]?
def M.ofO {α : Type} : Option α → M α
  | some a => .ok a
  | none => .bad
def guardM {α : Type} (c : Bool) (m : M α) : M α := if c then m else .bad
/-- what is seen through a name of the store, as it stands now -/
def R.der (r : R) : M D := match r with
  | .val (.obj n) => M.get fun st => match st[n]? with
    | some (.lst xs) => .ok (.lst xs)
    | _ => .bad
  | r => .ok r.view

/-- factors of together less than a million bits, or one of them short -/
def mulB (i j : Int) : Bool := decide (i.natAbs.log2 + j.natAbs.log2 < 1000000) || decide (i.natAbs < 9223372036854775808) || decide (j.natAbs < 9223372036854775808)
def opD : Operator → D → D → M R
  | .Add, .int i, .int j => .ok (.val (.int (i + j)))
  | .Add, .int i, .bl b => .ok (.val (.int (i + if b then 1 else 0)))
  | .Add, .str a, .str b => guardM (decide (a.length + b.length ≤ line)) (.ok (.val (.str (a ++ b))))
  | .Add, .lst a, .lst b => guardM (decide (a.length + b.length ≤ line)) (.ok (.own (a ++ b)))
  | .Add, .tup a, .tup b => guardM (decide (a.length + b.length ≤ line)) (.ok (.val (.tup (a ++ b))))
  | .Sub, .int i, .int j => .ok (.val (.int (i - j)))
  | .Mult, .int i, .int j => guardM (mulB i j) (.ok (.val (.int (i * j))))
  | .Mult, .lst a, .int k => guardM (decide (k < 4611686018427387904) && decide (-4611686018427387904 < k) && decide (a.length * k.toNat ≤ line)) (.ok (.own (List.replicate k.toNat a).flatten))
  | .Mult, .str a, .int k => guardM (decide (2 ≤ k) && decide (k ≤ 1000) && decide (a.length ≤ 1000) && decide (a.length ≠ 0)) (.ok (.val (.str ⟨(List.replicate k.toNat a.cps.toList).flatten.toArray⟩)))
  | .Mult, .tup a, .int k => guardM (decide (0 ≤ k) && decide (k ≤ 1000) && decide (a.length ≤ 1000) && decide (a.length ≠ 0)) (.ok (.val (.tup (List.replicate k.toNat a).flatten)))
  | .FloorDiv, .int i, .int j => guardM (decide (0 < j) && decide (j.natAbs.log2 < 9000)) (.ok (.val (.int (i / j))))
  | .Mod, .int i, .int j => guardM (decide (0 < j)) (.ok (.val (.int (i % j))))
  | .Pow, .int i, .int j => guardM (decide (0 ≤ j) && decide (j ≤ 1000000) && decide (i.natAbs < 2 ^ 64)) (.ok (.val (.int (i ^ j.toNat))))
  | _, _, _ => .bad

/-- the wish of both sides that deep comparisons have -/
def deepM (d e : D) (b : Bool) : M R := guardM (wf 60 d && wf 60 e) (.ok (.val (.bl b)))

def cmpD : CmpOp → D → D → M R
  | .Eq, d, e => deepM d e (eqD d e)
  | .NotEq, d, e => deepM d e (!eqD d e)
  | .Lt, .int i, .int j => .ok (.val (.bl (decide (i < j))))
  | .LtE, .int i, .int j => .ok (.val (.bl (decide (i ≤ j))))
  | .Gt, .int i, .int j => .ok (.val (.bl (decide (j < i))))
  | .GtE, .int i, .int j => .ok (.val (.bl (decide (j ≤ i))))
  | .Is, .bl a, .bl b => .ok (.val (.bl (decide (a = b))))
  | .Is, d, .non => .ok (.val (.bl (match d with | .non => true | _ => false)))
  | .IsNot, .bl a, .bl b => .ok (.val (.bl (!decide (a = b))))
  | .IsNot, d, .non => .ok (.val (.bl (match d with | .non => false | _ => true)))
  | .In, .str ⟨⟨[c]⟩⟩, .str z => .ok (.val (.bl (decide (c ∈ z.cps.toList))))
  | .NotIn, .str ⟨⟨[c]⟩⟩, .str z => .ok (.val (.bl (!decide (c ∈ z.cps.toList))))
  | .In, d, .lst xs => deepM d (.lst xs) (xs.any fun z => eqD z d)
  | .NotIn, d, .lst xs => deepM d (.lst xs) (!xs.any fun z => eqD z d)
  | .In, d, .tup xs => deepM d (.tup xs) (xs.any fun z => eqD z d)
  | .NotIn, d, .tup xs => deepM d (.tup xs) (!xs.any fun z => eqD z d)
  | _, _, _ => .bad

def ixD : D → D → M R
  | .lst xs, .int i => (M.ofO (atI xs i)).bind fun d => .ok (.val d)
  | .scr xs, .int i => (M.ofO (atI xs i)).bind fun d => .ok (.val d)
  | .tup xs, .int i => (M.ofO (atI xs i)).bind fun d => .ok (.val d)
  | .str z, .int i => guardM (decide (z.length ≤ line)) ((M.ofO (atI z.cps.toList i)).bind fun c => .ok (.val (.str ⟨#[c]⟩)))
  | _, _ => .bad
def slD : D → Option Int → Option Int → M R
  | .lst xs, lo, hi => .ok (.own (cut xs lo hi))
  | .scr xs, lo, hi => .ok (.own (cut xs lo hi))
  | .tup xs, lo, hi => .ok (.val (.tup (cut xs lo hi)))
  | .str z, lo, hi => guardM (decide (z.length ≤ line)) (.ok (.val (.str ⟨(cut z.cps.toList lo hi).toArray⟩)))
  | _, _, _ => .bad

/-- built-in functions -/
inductive B where
  | len | abs | int | max2 | min2 | sum | all | any | tuple | list | str | srt | minl | maxl
  deriving DecidableEq
/-- ints in order -/
def sortI (ns : List Int) : List Int := ns.mergeSort fun a b => decide (a ≤ b)
def boolsOf : List D → Option (List Bool)
  | [] => some []
  | .bl b :: r => (boolsOf r).map (b :: ·)
  | _ :: _ => none
def intsOf : List D → Option (List Int)
  | [] => some []
  | .int b :: r => (intsOf r).map (b :: ·)
  | _ :: _ => none
def bltD : B → List D → M R
  | .len, [.lst xs] => .ok (.val (.int xs.length))
  | .len, [.scr xs] => .ok (.val (.int xs.length))
  | .len, [.tup xs] => .ok (.val (.int xs.length))
  | .len, [.str z] => guardM (decide (z.length ≤ line)) (.ok (.val (.int z.length)))
  | .abs, [.int i] => .ok (.val (.int (if i < 0 then -i else i)))
  | .int, [.int i] => .ok (.val (.int i))
  | .int, [.bl b] => .ok (.val (.int (if b then 1 else 0)))
  | .max2, [.int i, .int j] => .ok (.val (.int (if j > i then j else i)))
  | .min2, [.int i, .int j] => .ok (.val (.int (if j < i then j else i)))
  | .sum, [.lst xs] => (M.ofO (intsOf xs)).bind fun ns => .ok (.val (.int ns.sum))
  | .all, [.lst xs] => (M.ofO (boolsOf xs)).bind fun bs => .ok (.val (.bl (bs.all id)))
  | .any, [.lst xs] => (M.ofO (boolsOf xs)).bind fun bs => .ok (.val (.bl (bs.any id)))
  | .tuple, [.lst xs] => .ok (.val (.tup xs))
  | .tuple, [.tup xs] => .ok (.val (.tup xs))
  | .list, [.lst xs] => .ok (.own xs)
  | .list, [.tup xs] => .ok (.own xs)
  | .str, [.int i] => guardM (decide (i.natAbs.log2 < 1920)) (.ok (.val (.str (Str.ofString (toString i)))))
  | .int, [.str z] => guardM (decide (z.length ≤ 640)) ((M.ofO (PySem.intText? z)).bind fun n => .ok (.val (.int n)))
  | .srt, [.lst xs] => (M.ofO (intsOf xs)).bind fun ns => .ok (.own ((sortI ns).map .int))
  | .minl, [.lst xs] => (M.ofO ((intsOf xs).bind List.min?)).bind fun n => .ok (.val (.int n))
  | .maxl, [.lst xs] => (M.ofO ((intsOf xs).bind List.max?)).bind fun n => .ok (.val (.int n))
  | _, _ => .bad
def strsOf : List D → Option (List Str)
  | [] => some []
  | .str b :: r => (strsOf r).map (b :: ·)
  | _ :: _ => none
/-- methods of texts -/
inductive Sm where | split | splitn | part | join | upper | find
  deriving DecidableEq
def joinD (a : Str) (xs : List D) : M R := (M.ofO (strsOf xs)).bind fun ys => guardM (decide ((ys.map (·.length)).sum + ys.length * a.length ≤ line)) (.ok (.val (.str (PySem.Txt.join a ys))))
def smD : Sm → Str → List D → M R
  | .split, a, [.str b] => guardM (!(b.length == 0) && decide (a.length + 2 ≤ line)) (.ok (.own ((PySem.Txt.split a b).map .str)))
  | .splitn, a, [.str b, .int k] => guardM (!(b.length == 0) && decide (a.length + 2 ≤ line) && decide (0 ≤ k) && decide (k < 1000)) (.ok (.own ((PySem.Txt.splitMax a b k).map .str)))
  | .part, a, [.str b] => guardM (!(b.length == 0) && decide (a.length ≤ line)) (.ok (.val (.tup [.str (PySem.Txt.partition a b).1, .str (PySem.Txt.partition a b).2.1, .str (PySem.Txt.partition a b).2.2])))
  | .join, a, [.lst xs] => joinD a xs
  | .join, a, [.tup xs] => joinD a xs
  | .upper, a, [] => guardM (decide (a.length ≤ 5592405)) (.ok (.val (.str (PySem.Txt.upper a))))
  | .find, a, [.str b] => .ok (.val (.int (PySem.Txt.find a b)))
  | _, _, _ => .bad
/-- a part of a text in f'..' -/
def fmtD : D → M Str
  | .str y => guardM (decide (y.length ≤ line)) (.ok y)
  | .int i => guardM (decide (i.natAbs.log2 < 1920)) (.ok (Str.ofString (toString i)))
  | _ => .bad
/-- each but once -/
def once : List Int → List Int → List Int
  | acc, [] => acc
  | acc, n :: ns => once (if acc.any (· == n) then acc else acc ++ [n]) ns
def lsetD : D → M R
  | .lst xs => (M.ofO (intsOf xs)).bind fun ns => guardM (decide (ns.length ≤ 4000)) (.ok (.val (.int (once [] ns).length)))
  | _ => .bad
def strR : R → M Str
  | .val (.str z) => .ok z
  | _ => .bad
/-- the types of isinstance -/
inductive Ty where | int | bool | tuple | list | str
  deriving DecidableEq
def isTy : Ty → D → Bool
  | .int, .int _ => true
  | .int, .bl _ => true
  | .bool, .bl _ => true
  | .tuple, .tup _ => true
  | .list, .lst _ => true
  | .list, .scr _ => true
  | .str, .str _ => true
  | _, _ => false

/-! ### syntax -/
/-- a name, a field of the instance in slot i, names -/
inductive Tg where | nm (i : Nat) | fl (i c k : Nat) | tup (ts : List Tg)
mutual
inductive E where
  | var (i : Nat)
  | k (d : D)
  | gl (x : String) (d : D)
  | tup (es : List E) | lst (es : List E)
  | op (o : Operator) (a b : E)
  | neg (a : E) | not (a : E)
  | cmp (o : CmpOp) (a b : E)
  | chain (o p : CmpOp) (a b c : E)
  | and (a b : E) | or (a b : E)
  | one (a : E)
  | ite (c a b : E)
  | call (f : Nat) (es : List E)
  | blt (f : B) (es : List E)
  | ix (a i : E)
  | sl (a : E) (lo hi : Option E)
  | isi (a : E) (t : Ty)
  | isx (i : Nat) (cs : List Nat)
  | lc (vs : List Nat) (tg : Tg) (it : I) (c : Option E) (e : E)
  /-- a new list is put into the store (nothing of the text) -/
  | box (a : E)
  /-- a.f, the field k of an instance of the class c -/
  | fld (c k : Nat) (a : E)
  /-- C(..) of the class c, f its __init__, with n fields -/
  | new (c f n : Nat) (es : List E)
  /-- a.m(..), f the def -/
  | mth (c f : Nat) (a : E) (es : List E)
  /-- through names of the store -/
  | ixr (a i : E) | slr (a : E) (lo hi : Option E) | cmpr (o : CmpOp) (a b : E) | bltr (f : B) (es : List E)
  /-- a o1 b o2 c ..; a or b, texts; a.m(..), a text; f'..'; list(range(..)); len(set(a)); a.pop(..), a list of the store -/
  | chn (a : E) (os : List CmpOp) (es : List E) | orV (a b : E) | sm (m : Sm) (a : E) (es : List E) | fs (es : List E) | lrng (lo : Option E) (hi : E) | lset (a : E) | popr (a : E) (i : Option E)
inductive I where
  | seq (e : E) | rng (es : List E) | enum (e : E) | zip (a b : E)
  /-- lists of the store -/
  | seqr (e : E) | enumr (e : E) | zipr (a b : E)
end
inductive T where
  | pass
  /-- nothing of the text: the list of slot i is held by many; is put into the store -/
  | frz (i : Nat) | bxs (i : Nat)
  | asg (tg : Tg) (e : E)
  | par (is : List Nat) (es : List E)
  | setix (i : Nat) (ix e : E)
  | aug (i : Nat) (o : Operator) (e : E)
  | app (i : Nat) (e : E)
  | ext (i : Nat) (e : E)
  | exp (e : E)
  | ret (e : E)
  | retN
  | iff (c : E) (a b : List T)
  | whl (c : E) (b : List T)
  | forr (tg : Tg) (it : I) (b : List T)
  | brk | cnt
  | rais (c : Nat)
  | tr (b : List T) (hs : List (List Nat × Option Nat × List T))
  /-- a.f = e -/
  | fset (c k : Nat) (a e : E)
  /-- a.append(e), a.extend(e), a[ix] = e, a.remove(e), of a list of the store -/
  | rapp (a e : E) | rext (a e : E) | rset (a ix e : E) | rrem (a e : E) | rins (a i e : E)
  /-- tg = xs.pop() of slot i; of a list of the store -/
  | pop (j i : Nat)
/-- the functions, by their numbers -/
abbrev Env := Nat → Option (List D → M R)
/-- what is known of the classes of errors: c is a part of k -/
abbrev Sub := Nat → Nat → Option Bool
/-- c is one of them, or a part of one -/
def anyO (sub : Sub) (c : Nat) : List Nat → Option Bool
  | [] => some false
  | k :: ks => match sub c k with
    | none => none
    | some true => some true
    | some false => anyO sub c ks

/-! ### evaluation -/
/-- a field is written -/
def setFld (d : D) (c k : Nat) (v : D) : M Unit := match d with
  | .obj n => M.get fun st => match st[n]? with
    | some (.inst c' fs) => if c' = c ∧ k < fs.length then M.put (st.set n (.inst c' (fs.set k (some v)))) else .bad
    | _ => .bad
  | _ => .bad
def getFld (d : D) (c k : Nat) : M R := match d with
  | .obj n => M.get fun st => match st[n]? with
    | some (.inst c' fs) => if c' = c then (match fs[k]? with
      | some (some v) => .ok (.val v)
      | _ => .bad) else .bad
    | _ => .bad
  | _ => .bad
/-- a list of the store is changed -/
def updL (d : D) (h : List D → Option (List D)) : M Unit := match d with
  | .obj n => M.get fun st => match st[n]? with
    | some (.lst xs) => (match h xs with
      | some ys => M.put (st.set n (.lst ys))
      | none => .bad)
    | _ => .bad
  | _ => .bad
def M.valO {α : Type} (o : Option S) (k : D → M α) : M α := match o with
  | some (.val d) => k d
  | _ => .bad
mutual
def asg : Tg → D → List S → M (List S)
  | .nm i, d, ss => if i < ss.length then .ok (ss.set i (.val d)) else .bad
  | .fl i c k, d, ss => M.valO ss[i]? fun o => (setFld o c k d).bind fun _ => .ok ss
  | .tup ts, .tup ds, ss => asgs ts ds ss
  | .tup ts, .lst ds, ss => asgs ts ds ss
  | .tup ts, .obj n, ss => M.get fun st => match st[n]? with
    | some (.lst ds) => asgs ts ds ss
    | _ => .bad
  | .tup _, _, _ => .bad
def asgs : List Tg → List D → List S → M (List S)
  | [], [], ss => .ok ss
  | t :: ts, d :: ds, ss => (asg t d ss).bind fun ss' => asgs ts ds ss'
  | _, _, _ => .bad
end
def wipe (ss : List S) : List Nat → List S
  | [] => ss
  | v :: vs => (wipe ss vs).set v .emp
/-- the items of a comprehension -/
def lcL (f : D → M (Option D)) : List D → M (List D)
  | [] => .ok []
  | x :: r => (f x).bind fun o => (lcL f r).bind fun ys => .ok (match o with | some y => y :: ys | none => ys)
/-- a call of a def that is there -/
def callG (o : Option (List D → M R)) (m : M (List D)) : M R := match o with
  | some g => m.bind g
  | none => .bad
def asBool : R → M Bool
  | .val (.bl b) => .ok b
  | _ => .bad
def asInt : R → M Int
  | .val (.int b) => .ok b
  | _ => .bad
/-- nothing may be raised within -/
def M.calm {α : Type} (m : M α) : M α := fun st => match m st with
  | .ok a st' => .ok a st'
  | _ => .bad
def rngL (lo hi : Int) : List D := (List.range (hi - lo).toNat).map fun (i : Nat) => .int (lo + i)
def small (i : Int) : Bool := decide (-4611686018427387904 ≤ i) && decide (i < 4611686018427387904)
def enumL : Nat → List D → List D
  | _, [] => []
  | i, x :: r => .tup [.int i, x] :: enumL (i + 1) r
def zipL (xs ys : List D) : List D := List.zipWith (fun x y => .tup [x, y]) xs ys
/-- lists of the store that stand still -/
abbrev Gd := List (Nat × List D)
def Gd.ok (gd : Gd) (st : Store) : Prop := ∀ p ∈ gd, st[p.1]? = some (.lst p.2)
open Classical in
noncomputable def still (gd : Gd) (m : M Unit) : M Unit := fun st => if gd.ok st then m st else .bad
/-- what is walked: the items; the lists of the store among them; whether none of it is a list of a slot -/
structure Its where
  ds : List D
  gd : Gd := []
  fx : Bool := true
def R.fx : R → Bool
  | .bor _ => false
  | _ => true
def itD (d : D) (fx : Bool) : M Its := match d with
    | .lst xs => .ok ⟨xs, [], fx⟩
    | .scr xs => .ok ⟨xs, [], fx⟩
    | .tup xs => .ok ⟨xs, [], fx⟩
    | .str z => .ok ⟨z.cps.toList.map fun c => .str ⟨#[c]⟩, [], fx⟩
    | _ => .bad
def rngD (ds : List D) : M Its := match ds with
    | [.int j] => guardM (small j) (.ok ⟨rngL 0 j, [], true⟩)
    | [.int i, .int j] => guardM (small i && small j) (.ok ⟨rngL i j, [], true⟩)
    | _ => .bad
def enumD (d : D) (fx : Bool) : M Its := match d with
    | .lst xs => .ok ⟨enumL 0 xs, [], fx⟩
    | .tup xs => .ok ⟨enumL 0 xs, [], fx⟩
    | _ => .bad
def zipD (a b : D) (fx : Bool) : M Its := match a, b with
    | .lst xs, .lst ys => .ok ⟨zipL xs ys, [], fx⟩
    | .tup xs, .tup ys => .ok ⟨zipL xs ys, [], fx⟩
    | _, _ => .bad
/-- a list, seen through a name of the store or not -/
def R.lstr (r : R) : M (List D × Gd) := match r with
  | .val (.obj n) => M.get fun st => match st[n]? with
    | some (.lst xs) => .ok (xs, [(n, xs)])
    | _ => .bad
  | .val (.lst xs) => .ok (xs, [])
  | .own xs => .ok (xs, [])
  | .bor xs => .ok (xs, [])
  | _ => .bad
/-- instance of the class c -/
def isInst (d : D) (c : Nat) : M Unit := match d with
  | .obj n => M.get fun st => match st[n]? with
    | some (.inst c' _) => if c' = c then .ok () else .bad
    | _ => .bad
  | _ => .bad
def withG (o : Option (List D → M R)) (k : (List D → M R) → M R) : M R := match o with
  | some g => k g
  | none => .bad
/-- behind an __init__ -/
def initR (o : D) (r : R) : M R := match r with
  | .val .non => .ok (.val o)
  | _ => .bad
/-- a list of the store -/
def isLst (d : D) : M Unit := match d with
  | .obj n => M.get fun st => match st[n]? with
    | some (.lst _) => .ok ()
    | _ => .bad
  | _ => .bad
def lrngM (lo hi : Int) : M R := guardM (small lo && small hi && decide ((hi - lo).toNat ≤ line)) (.ok (.own (rngL lo hi)))
/-- a.pop(), a.pop(i) -/
def popAt (xs : List D) : Option Int → Option (D × List D)
  | none => (xs[xs.length - 1]?).map fun y => (y, xs.dropLast)
  | some i => if 0 ≤ i ∧ i < 4611686018427387904 ∧ i < xs.length then (xs[i.toNat]?).map fun y => (y, xs.eraseIdx i.toNat) else none
def popL (d : D) (o : Option Int) : M R := match d with
  | .obj n => M.get fun st => match st[n]? with
    | some (.lst xs) => (match popAt xs o with
      | some (y, ys) => (updL (.obj n) fun _ => some ys).bind fun _ => .ok (.val y)
      | none => .bad)
    | _ => .bad
  | _ => .bad
/-- a new thing in the store -/
def newOb (o : Ob) : M D := fun st => .ok (.obj st.length) (st ++ [o])
def boxR : R → M R
  | .own xs => (newOb (.lst xs)).bind fun d => .ok (.val d)
  | _ => .bad
open Classical in
/-- the store's lists stand still through a comprehension -/
noncomputable def lcG (gd : Gd) (f : D → M (Option D)) : List D → M (List D)
  | [] => fun st => if gd.ok st then .ok [] st else .bad
  | x :: r => fun st => if gd.ok st then ((f x).bind fun o => (lcG gd f r).bind fun ys => .ok (match o with | some y => y :: ys | none => ys)) st else .bad
section
variable (G : Env) (sub : Sub)
mutual
noncomputable def evE : E → List S → M R
  | .var i, ss => match ss[i]? with
    | some (.val d) => .ok (.val d)
    | some (.own xs) => .ok (.bor xs)
    | _ => .bad
  | .k d, _ => .ok (.val d)
  | .gl _ d, _ => .ok (.val d)
  | .tup es, ss => (evF es ss).bind fun ds => guardM (decide (ds.length ≤ line)) (.ok (.val (.tup ds)))
  | .lst es, ss => (evF es ss).bind fun ds => guardM (decide (ds.length ≤ line)) (.ok (.own ds))
  | .op o a b, ss => (evE a ss).bind fun x => (evE b ss).bind fun y => opD o x.view y.view
  | .neg a, ss => (evE a ss).bind fun x => (asInt x).bind fun i => .ok (.val (.int (-i)))
  | .not a, ss => (evE a ss).bind fun x => (asBool x).bind fun b => .ok (.val (.bl (!b)))
  | .cmp o a b, ss => (evE a ss).bind fun x => (evE b ss).bind fun y => cmpD o x.view y.view
  | .chain o p a b c, ss => (evE a ss).bind fun x => (evE b ss).bind fun y => (cmpD o x.view y.view).bind fun z => (asBool z).bind fun t =>
      if t then (evE c ss).bind fun w => cmpD p y.view w.view else .ok (.val (.bl false))
  | .and a b, ss => (evE a ss).bind fun x => (asBool x).bind fun t => if t then evE b ss else .ok (.val (.bl false))
  | .or a b, ss => (evE a ss).bind fun x => (asBool x).bind fun t => if t then .ok (.val (.bl true)) else evE b ss
  | .one a, ss => evE a ss
  | .ite c a b, ss => (evE c ss).bind fun x => (asBool x).bind fun t => if t then evE a ss else evE b ss
  | .call f es, ss => callG (G f) (evF es ss)
  | .blt f es, ss => (evs es ss).bind fun rs => bltD f (rs.map R.view)
  | .ix a i, ss => (evE a ss).bind fun x => (evE i ss).bind fun y => ixD x.view y.view
  | .sl a lo hi, ss => (evE a ss).bind fun x => (evO lo ss).bind fun l => (evO hi ss).bind fun h => slD x.view l h
  | .isi a t, ss => (evE a ss).bind fun x => match x with
    | .val (.obj _) => .bad
    | x => .ok (.val (.bl (isTy t x.view)))
  | .isx i cs, ss => match ss[i]? with
    | some (.exc c) => (match anyO sub c cs with
      | some b => .ok (.val (.bl b))
      | none => .bad)
    | _ => .bad
  | .lc vs tg it c e, ss => (evI it ss).bind fun its => guardM (decide (its.ds.length ≤ line)) ((M.calm (lcG its.gd (fun d => (asg tg d (wipe ss vs)).bind fun ss' => (evC c ss').bind fun b => if b then (evE e ss').bind fun r => (r.fix).bind fun y => .ok (some y) else .ok none) its.ds)).bind fun ys => .ok (.own ys))
  | .box a, ss => (evE a ss).bind boxR
  | .fld c k a, ss => (evE a ss).bind fun x => getFld x.view c k
  | .new c f n es, ss => withG (G f) fun g => (evF es ss).bind fun ds => (newOb (.inst c (List.replicate n none))).bind fun o => (g (o :: ds)).bind (initR o)
  | .mth c f a es, ss => withG (G f) fun g => (evE a ss).bind fun x => (isInst x.view c).bind fun _ => (evF es ss).bind fun ds => g (x.view :: ds)
  | .ixr a i, ss => (evE a ss).bind fun x => (evE i ss).bind fun y => x.der.bind fun d => ixD d y.view
  | .slr a lo hi, ss => (evE a ss).bind fun x => (evO lo ss).bind fun l => (evO hi ss).bind fun h => x.der.bind fun d => slD d l h
  | .cmpr o a b, ss => (evE a ss).bind fun x => (evE b ss).bind fun y => x.der.bind fun d => y.der.bind fun e => cmpD o d e
  | .bltr f es, ss => (evs es ss).bind fun rs => (match rs with
    | [r] => r.der.bind fun d => bltD f [d]
    | _ => .bad)
  | .chn a os es, ss => (evE a ss).bind fun x => evCh x os es ss
  | .orV a b, ss => (evE a ss).bind fun x => (strR x).bind fun z => if z.length = 0 then evE b ss else guardM (decide (z.length ≤ line)) (.ok (.val (.str z)))
  | .sm m a es, ss => (evE a ss).bind fun x => (strR x).bind fun z => (evs es ss).bind fun rs => smD m z (rs.map R.view)
  | .fs es, ss => evJ es Str.empty ss
  | .lrng lo hi, ss => (evO lo ss).bind fun l => (evE hi ss).bind fun x => (asInt x).bind fun h => lrngM (l.getD 0) h
  | .lset a, ss => (evE a ss).bind fun x => lsetD x.view
  | .popr a i, ss => (evE a ss).bind fun x => (isLst x.view).bind fun _ => (evO i ss).bind fun j => popL x.view j
noncomputable def evCh : R → List CmpOp → List E → List S → M R
  | x, [o], [e], ss => (evE e ss).bind fun y => cmpD o x.view y.view
  | x, o :: p :: os, e :: es, ss => (evE e ss).bind fun y => (cmpD o x.view y.view).bind fun z => (asBool z).bind fun t => if t then evCh y (p :: os) es ss else .ok (.val (.bl false))
  | _, _, _, _ => .bad
noncomputable def evJ : List E → Str → List S → M R
  | [], acc, _ => .ok (.val (.str acc))
  | e :: es, acc, ss => (evE e ss).bind fun x => (fmtD x.view).bind fun y => guardM (decide ((acc ++ y).length ≤ line)) (evJ es (acc ++ y) ss)
noncomputable def evC : Option E → List S → M Bool
  | none, _ => .ok true
  | some c, ss => (evE c ss).bind asBool
noncomputable def evO : Option E → List S → M (Option Int)
  | none, _ => .ok none
  | some c, ss => (evE c ss).bind fun x => (asInt x).bind fun i => .ok (some i)
noncomputable def evs : List E → List S → M (List R)
  | [], _ => .ok []
  | e :: es, ss => (evE e ss).bind fun x => (evs es ss).bind fun xs => .ok (x :: xs)
noncomputable def evF : List E → List S → M (List D)
  | [], _ => .ok []
  | e :: es, ss => (evE e ss).bind fun r => (r.fix).bind fun x => (evF es ss).bind fun xs => .ok (x :: xs)
noncomputable def evI : I → List S → M Its
  | .seq e, ss => (evE e ss).bind fun x => itD x.view x.fx
  | .rng es, ss => (evF es ss).bind rngD
  | .enum e, ss => (evE e ss).bind fun x => enumD x.view x.fx
  | .zip a b, ss => (evE a ss).bind fun x => (evE b ss).bind fun y => zipD x.view y.view (x.fx && y.fx)
  | .seqr e, ss => (evE e ss).bind fun x => x.lstr.bind fun p => .ok ⟨p.1, p.2, x.fx⟩
  | .enumr e, ss => (evE e ss).bind fun x => x.lstr.bind fun p => .ok ⟨enumL 0 p.1, p.2, x.fx⟩
  | .zipr a b, ss => (evE a ss).bind fun x => (evE b ss).bind fun y => x.lstr.bind fun p => y.lstr.bind fun q => .ok ⟨zipL p.1 q.1, p.2 ++ q.2, x.fx && y.fx⟩
end
/-- how a statement ends -/
inductive FO where
  | nx (ss : List S) (st : Store) | rt (r : R) (st : Store) | bk (ss : List S) (st : Store) | ct (ss : List S) (st : Store) | ex (c : Nat) (ss : List S) (st : Store) | bad
def F : Type := Store → FO
namespace F
def nx (ss : List S) : F := fun st => .nx ss st
def rt (r : R) : F := fun st => .rt r st
def bk (ss : List S) : F := fun st => .bk ss st
def ct (ss : List S) : F := fun st => .ct ss st
def ex (c : Nat) (ss : List S) : F := fun st => .ex c ss st
def bad : F := fun _ => .bad
/-- the next statement -/
def seq (f : F) (k : List S → F) : F := fun st => match f st with
  | .nx s st' => k s st'
  | r => r
/-- the next turn -/
def loop (f : F) (k : List S → F) : F := fun st => match f st with
  | .nx s st' => k s st'
  | .ct s st' => k s st'
  | .bk s st' => .nx s st'
  | r => r
def tr (f : F) (k : Nat → List S → F) : F := fun st => match f st with
  | .ex c s st' => k c s st'
  | r => r
def han (f : F) (i : Nat) : F := fun st => match f st with
  | .nx s st' => .nx (s.set i .emp) st'
  | .bk s st' => .bk (s.set i .emp) st'
  | .ct s st' => .ct (s.set i .emp) st'
  | .rt z st' => .rt z st'
  | _ => .bad
def hao (f : F) : F := fun st => match f st with
  | .ex _ _ _ => .bad
  | z => z
end F
/-- an expression's value goes on -/
def M.f {α : Type} (m : M α) (ss : List S) (k : α → F) : F := fun st => match m st with
  | .ok a st' => k a st'
  | .ex c st' => .ex c ss st'
  | .bad => .bad
def F.ofO (o : Option (List S)) : F := match o with
  | some ss => .nx ss
  | none => .bad
def putR (i : Nat) (r : R) (ss : List S) : F := if i < ss.length then (match r with
  | .val d => .nx (ss.set i (.val d))
  | .own xs => .nx (ss.set i (.own xs))
  | .bor _ => .bad) else .bad
def setN (i : Nat) (xs : List D) (d : D) (o : Option Nat) (ss : List S) : F := match o with
  | some n => .nx (ss.set i (.own (xs.set n d)))
  | none => .bad
def asgR (tg : Tg) (r : R) (ss : List S) : F := match tg with
  | .nm i => putR i r ss
  | tg => (r.fix).f ss fun d => (asg tg d ss).f ss F.nx
def setAll : List Nat → List D → List S → Option (List S)
  | [], [], ss => some ss
  | i :: is, d :: ds, ss => if i < ss.length then (setAll is ds ss).map fun s' => s'.set i (.val d) else none
  | _, _, _ => none
def retS (o : Option S) : F := match o with
  | some (.val d) => .rt (.val d)
  | some (.own xs) => .rt (.own xs)
  | _ => .bad
def rtR (r : R) : F := match r with
  | .bor _ => .bad
  | r => .rt r
def ownS (o : Option S) (k : List D → F) : F := match o with
  | some (.own xs) => k xs
  | _ => .bad
def intS (o : Option S) (k : Int → F) : F := match o with
  | some (.val (.int x)) => k x
  | _ => .bad
def intR (r : R) (k : Int → F) : F := match r with
  | .val (.int y) => k y
  | _ => .bad
noncomputable def retR (e : E) (ss : List S) : F := match e with
  | .var i => retS ss[i]?
  | e => (evE G sub e ss).f ss rtR
def whileN (c : List S → M Bool) (b : List S → F) : Nat → List S → F
  | 0, _ => .bad
  | n + 1, ss => (c ss).f ss fun t => if t then (b ss).loop (whileN c b n) else .nx ss
open Classical in
noncomputable def forL (gd : Gd) (g : D → List S → M (List S)) (b : List S → F) : List D → List S → F
  | [], ss => fun st => if gd.ok st then .nx ss st else .bad
  | x :: r, ss => fun st => if gd.ok st then ((g x ss).f ss fun s1 => (b s1).loop (forL gd g b r)) st else .bad
def frzS (i : Nat) (ss : List S) : F := match ss[i]? with
  | some (.own xs) => .nx (ss.set i (.val (.lst xs)))
  | some _ => .nx ss
  | none => .bad
def bxsS (i : Nat) (ss : List S) : F := match ss[i]? with
  | some (.own xs) => (newOb (.lst xs)).f ss fun d => .nx (ss.set i (.val d))
  | _ => .bad
def popS (j : Nat) (i : Nat) (xs : List D) (ss : List S) : F := match xs[xs.length - 1]? with
  | some d => if j < ss.length then .nx ((ss.set i (.own xs.dropLast)).set j (.val d)) else .bad
  | none => .bad
def listOf : D → Option (List D)
  | .lst xs => some xs
  | _ => none
/-- xs.remove(k), ints -/
def remL (k : D) (xs : List D) : Option (List D) := match k, intsOf xs with
  | .int k, some ns => if k ∈ ns then some (xs.eraseIdx (ns.findIdx (· == k))) else none
  | _, _ => none
variable (fuel : Nat)
mutual
noncomputable def evT : T → List S → F
  | .pass, ss => .nx ss
  | .frz i, ss => frzS i ss
  | .bxs i, ss => bxsS i ss
  | .asg tg e, ss => (evE G sub e ss).f ss fun r => asgR tg r ss
  | .par is es, ss => (evF G sub es ss).f ss fun ds => .ofO (setAll is ds ss)
  | .setix i ix e, ss => (evE G sub e ss).f ss fun r => (r.fix).f ss fun d => ownS ss[i]? fun xs => (evE G sub ix ss).f ss fun x => (asInt x).f ss fun j => setN i xs d (ixN xs.length j) ss
  | .aug i o e, ss => intS ss[i]? fun x => (evE G sub e ss).f ss fun r => intR r fun y => (opD o (.int x) (.int y)).f ss fun z => putR i z ss
  | .app i e, ss => ownS ss[i]? fun xs => (evE G sub e ss).f ss fun r => (r.fix).f ss fun d => if xs.length < line then .nx (ss.set i (.own (xs ++ [d]))) else .bad
  | .ext i e, ss => ownS ss[i]? fun xs => (evE G sub e ss).f ss fun r => match listOf r.view with
    | some ys => if xs.length + ys.length ≤ line then .nx (ss.set i (.own (xs ++ ys))) else .bad
    | none => .bad
  | .exp e, ss => (evE G sub e ss).f ss fun _ => .nx ss
  | .ret e, ss => retR G sub e ss
  | .retN, ss => .rt (.val .non)
  | .iff c a b, ss => ((evE G sub c ss).bind asBool).f ss fun t => if t then evTs a ss else evTs b ss
  | .whl c b, ss => whileN (fun s => (evE G sub c s).bind asBool) (evTs b) fuel ss
  | .forr tg it b, ss => (evI G sub it ss).f ss fun its => if its.fx then forL its.gd (asg tg) (evTs b) its.ds ss else .bad
  | .brk, ss => .bk ss
  | .cnt, ss => .ct ss
  | .rais c, ss => .ex c ss
  | .tr b hs, ss => (evTs b ss).tr (evHs hs)
  | .fset c k a e, ss => (evE G sub e ss).f ss fun r => (r.fix).f ss fun d => (evE G sub a ss).f ss fun o => (setFld o.view c k d).f ss fun _ => .nx ss
  | .rapp a e, ss => (evE G sub a ss).f ss fun o => (isLst o.view).f ss fun _ => (evE G sub e ss).f ss fun r => (r.fix).f ss fun d => (updL o.view fun xs => if xs.length < line then some (xs ++ [d]) else none).f ss fun _ => .nx ss
  | .rext a e, ss => (evE G sub a ss).f ss fun o => (isLst o.view).f ss fun _ => (evE G sub e ss).f ss fun r => (updL o.view fun xs => match listOf r.view with
    | some ys => if xs.length + ys.length ≤ line then some (xs ++ ys) else none
    | none => none).f ss fun _ => .nx ss
  | .rset a ix e, ss => (evE G sub e ss).f ss fun r => (r.fix).f ss fun d => (evE G sub a ss).f ss fun o => (evE G sub ix ss).f ss fun x => (asInt x).f ss fun j => (updL o.view fun xs => (ixN xs.length j).map fun n => xs.set n d).f ss fun _ => .nx ss
  | .rrem a e, ss => (evE G sub a ss).f ss fun o => (isLst o.view).f ss fun _ => (evE G sub e ss).f ss fun r => (updL o.view (remL r.view)).f ss fun _ => .nx ss
  | .pop j i, ss => ownS ss[i]? fun xs => popS j i xs ss
  | .rins a i e, ss => (evE G sub a ss).f ss fun o => (isLst o.view).f ss fun _ => (evE G sub i ss).f ss fun r => (asInt r).f ss fun j => (evE G sub e ss).f ss fun r => (r.fix).f ss fun d => (updL o.view fun xs => if 0 ≤ j ∧ j < 4611686018427387904 ∧ xs.length < line then some (xs.take j.toNat ++ [d] ++ xs.drop j.toNat) else none).f ss fun _ => .nx ss
noncomputable def evTs : List T → List S → F
  | [], ss => .nx ss
  | t :: ts, ss => (evT t ss).seq (evTs ts)
noncomputable def evHs : List (List Nat × Option Nat × List T) → Nat → List S → F
  | [], c, ss => .ex c ss
  | (ks, o, b) :: r, c, ss => match anyO sub c ks with
    | none => .bad
    | some true => (match o with
      | none => (evTs b ss).hao
      | some i => if i < ss.length then (evTs b (ss.set i (.exc c))).han i else .bad)
    | some false => evHs r c ss
end
/-- a def: its number of parameters, of slots, its body; whether what it puts into the store is dropped behind it -/
structure Fn where
  ar : Nat
  sl : Nat
  body : List T
  sc : Bool
def startS (n : Nat) (ds : List D) : List S := ds.map S.val ++ List.replicate (n - ds.length) .emp
/-- what is new in the store is handed out as it is -/
def meltD (n : Nat) (st : Store) : D → Option D
  | .obj m => if m < n then some (.obj m) else match st[m]? with
    | some (.lst xs) => if lows n xs then some (.lst xs) else none
    | _ => none
  | d => if low n d then some d else none
def meltDs (n : Nat) (st : Store) : List D → Option (List D)
  | [] => some []
  | x :: xs => match meltD n st x, meltDs n st xs with
    | some y, some ys => some (y :: ys)
    | _, _ => none
def meltR (n : Nat) (st : Store) : R → Option R
  | .val (.obj m) => if m < n then some (.val (.obj m)) else match st[m]? with
    | some (.lst xs) => (meltDs n st xs).map .own
    | _ => none
  | .val d => if low n d then some (.val d) else none
  | .own xs => (meltDs n st xs).map .own
  | .bor _ => none
open Classical in
noncomputable def dropM (m : M R) : M R := fun st => match m st with
  | .ok r st' => if st'.take st.length = st then (match meltR st.length st' r with
    | some r' => .ok r' st
    | none => .bad) else .bad
  | .ex c st' => if st'.take st.length = st then .ex c st else .bad
  | .bad => .bad
def F.fin (f : F) : M R := fun st => match f st with
  | .nx _ st' => .ok (.val .non) st'
  | .rt (.bor _) _ => .bad
  | .rt r st' => .ok r st'
  | .ex c _ st' => .ex c st'
  | _ => .bad
noncomputable def Fn.run (f : Fn) (ds : List D) : M R := if ds.length = f.ar then (if f.sc then dropM (evTs G sub fuel f.body (startS f.sl ds)).fin else (evTs G sub fuel f.body (startS f.sl ds)).fin) else .bad
end
/-! ### a whole text -/
/-- a def of the text: its number, its name, its parameters, its slots, its body as the evaluator has it, where it stands -/
structure Def where
  id : Nat
  name : Str
  ps : List Str
  N : List Str
  body : List T
  sc : Bool := false
  /-- of a method: its class, the whole name -/
  mt : Option (Nat × Str) := none
def Def.fn (d : Def) : Fn := ⟨d.ps.length, d.N.length, d.body, d.sc⟩
/-- the defs, the last one first; each sees those behind it -/
noncomputable def envOf (sub : Sub) (fuel : Nat) : List Def → Env
  | [] => fun _ => none
  | d :: ds => fun f => if f = d.id then some (d.fn.run (envOf sub fuel ds) sub fuel) else envOf sub fuel ds f
end EV

set_option Elab.async false
set_option linter.all false
set_option autoImplicit false
set_option maxRecDepth 100000
set_option maxHeartbeats 2000000
/-! EwB1: how the evaluator's data stand in the abstract heap. -/
namespace EV
open PySem PySem.Spec PyProof.Rows L2

theorem line_eq : (line : Nat) = sizeLine := by rw [sizeLine_eq]
theorem Same.seqT {K : PySem.W.Frag} {H H' : Hp} {a : Addr} {xs : List V} (e : Same H H') (h : SqT K H a xs) : SqT K H' a xs := by
  rcases h with (h | ⟨o, h⟩) | h
  · exact .inl (.inl (e _ _ h))
  · exact .inl (.inr ⟨o, e _ _ h⟩)
  · exact .inr h
theorem same_upd {H : Hp} {p : Addr} {o : HO} (h : H p = none) : Same H (upd H p o) := fun b x e => by
  rw [upd_ne (ne_of_none e h)]; exact e
theorem upd_mono {F H : Hp} (h : Same F H) (p : Addr) (o : HO) : Same (upd F p o) (upd H p o) := fun b x e => by
  by_cases q : b = p
  · subst q; rw [upd_same] at e ⊢; exact e
  · rw [upd_ne q] at e ⊢; exact h _ _ e

/-- what is known: the part of the heap that never changes; where the store's things stand; the store; the classes (where they stand, their fields) -/
structure Fz where
  h : Hp
  al : List Addr
  st : Store
  cl : Nat → Option (Addr × List Str)
/-- neither fixed nor of the store -/
def Fz.fr (F : Fz) (a : Addr) : Prop := F.h a = none ∧ a ∉ F.al
structure Le (F F' : Fz) : Prop where
  h : Same F.h F'.h
  al : ∀ (n : Nat) a, F.al[n]? = some a → F'.al[n]? = some a
  cl : F'.cl = F.cl
theorem Le.refl (F : Fz) : Le F F := ⟨Same.refl _, fun _ _ h => h, rfl⟩
theorem Le.trans {F F' F2 : Fz} (a : Le F F') (b : Le F' F2) : Le F F2 := ⟨a.h.trans b.h, fun n x h => b.al n x (a.al n x h), b.cl.trans a.cl⟩

section
variable (K : PySem.W.Frag)
mutual
/-- d stands in the frozen heap as v -/
def Rep (F : Fz) : D → V → Prop
  | .non, v => v = .non
  | .bl b, v => v = .bl b
  | .int i, v => v = .int i
  | .str s, v => v = .str s
  | .tup xs, v => ∃ a vs, v = .ref a ∧ SqT K F.h a vs ∧ Reps F xs vs
  | .lst xs, v => ∃ a vs, v = .ref a ∧ F.h a = some (.lst vs) ∧ Reps F xs vs
  | .scr xs, v => ∃ a vs, v = .ref a ∧ SqL K F.h a vs ∧ Reps F xs vs
  | .obj n, v => ∃ a, v = .ref a ∧ F.al[n]? = some a
def Reps (F : Fz) : List D → List V → Prop
  | [], vs => vs = []
  | x :: xs, vs => ∃ v r, vs = v :: r ∧ Rep F x v ∧ Reps F xs r
end
/-- the fields of an instance -/
structure FsRep (F : Fz) (ns : List Str) (fs : List (Option D)) (kvs : List (Str × V)) : Prop where
  nd : ns.Nodup
  len : ns.length = fs.length
  small : fs.length < 900
  cnt : kvs.length ≤ (fs.filter Option.isSome).length
  at_ : ∀ (k : Nat) f d, ns[k]? = some f → fs[k]? = some (some d) → ∃ v, kvs.lookup f = some v ∧ Rep K F d v
  no : ∀ (k : Nat) f, ns[k]? = some f → fs[k]? = some none → kvs.lookup f = none
  out : ∀ f, f ∉ ns → kvs.lookup f = none
/-- a thing of the store, at a -/
def ObRep (F : Fz) (H : Hp) (a : Addr) : Ob → Prop
  | .lst xs => ∃ vs, H a = some (.lst vs) ∧ Reps K F xs vs
  | .inst c fs => ∃ C ns dx kvs, F.cl c = some (C, ns) ∧ H a = some (.ins C dx kvs) ∧ FsRep K F ns fs kvs
  | .dic kvs => ∃ ws : List (L2.Key × V), H a = some (.dK ws) ∧ Paired (fun (p : Str × D) (q : L2.Key × V) => q.1 = Sum.inr p.1 ∧ Rep K F p.2 q.2) kvs ws
structure Ok (F : Fz) (H : Hp) : Prop where
  sub : Same F.h H
  inj : ∀ (i j : Nat) a, F.al[i]? = some a → F.al[j]? = some a → i = j
  len : F.al.length = F.st.length
  fz : ∀ (n : Nat) a, F.al[n]? = some a → F.h a = none
  ob : ∀ (n : Nat) o, F.st[n]? = some o → ∃ a, F.al[n]? = some a ∧ ObRep K F H a o
/-- what a reader sees of d, now -/
def View (F : Fz) (H : Hp) : D → V → Prop
  | .lst xs, v => ∃ a vs, v = .ref a ∧ H a = some (.lst vs) ∧ Reps K F xs vs
  | d, v => Rep K F d v
/-- an expression's end; H: ahead of it -/
def RepR (H : Hp) (F' : Fz) (H' : Hp) : R → V → Prop
  | .val d, v => Rep K F' d v
  | .own xs, v => ∃ a vs, v = .ref a ∧ H' a = some (.lst vs) ∧ F'.fr a ∧ H a = none ∧ Reps K F' xs vs
  | .bor xs, v => ∃ a vs, v = .ref a ∧ H' a = some (.lst vs) ∧ F'.fr a ∧ Reps K F' xs vs
/-- heaps grow -/
structure Ext (F : Fz) (H : Hp) (F' : Fz) (H' : Hp) : Prop where
  sh : ∀ b o, F.fr b → H b = some o → H' b = some o
  le : Le F F'
  new : ∀ b o, F.fr b → H b = some o → F'.fr b
  ok0 : Ok K F H
  ok : Ok K F' H'
end
section
variable {K : PySem.W.Frag} {F F' F1 F2 : Fz} {H H' H1 H2 : Hp}
mutual
theorem Rep.mono (s : Le F F') : ∀ (d : D) (v : V), Rep K F d v → Rep K F' d v
  | .non, _, h => h
  | .bl _, _, h => h
  | .int _, _, h => h
  | .str _, _, h => h
  | .tup xs, v, h => by
    unfold Rep at h ⊢
    obtain ⟨a, vs, e, q, r⟩ := h
    exact ⟨a, vs, e, Same.seqT s.h q, Reps.mono s xs vs r⟩
  | .lst xs, v, h => by
    unfold Rep at h ⊢
    obtain ⟨a, vs, e, q, r⟩ := h
    exact ⟨a, vs, e, s.h _ _ q, Reps.mono s xs vs r⟩
  | .scr xs, v, h => by
    unfold Rep at h ⊢
    obtain ⟨a, vs, e, q, r⟩ := h
    exact ⟨a, vs, e, s.h.seq q, Reps.mono s xs vs r⟩
  | .obj n, v, h => by
    unfold Rep at h ⊢
    obtain ⟨a, e, q⟩ := h
    exact ⟨a, e, s.al _ _ q⟩
theorem Reps.mono (s : Le F F') : ∀ (ds : List D) (vs : List V), Reps K F ds vs → Reps K F' ds vs
  | [], _, h => by unfold Reps at h ⊢; exact h
  | d :: ds, vs, h => by
    unfold Reps at h ⊢
    obtain ⟨v, r, e, a, b⟩ := h
    exact ⟨v, r, e, Rep.mono s d v a, Reps.mono s ds r b⟩
end
theorem Reps.nil : Reps K F [] [] := by unfold Reps; rfl
theorem Reps.cons {d : D} {ds : List D} {v : V} {vs : List V} (h : Rep K F d v) (t : Reps K F ds vs) : Reps K F (d :: ds) (v :: vs) := by unfold Reps; exact ⟨v, vs, rfl, h, t⟩
theorem Reps.length : ∀ {ds : List D} {vs : List V}, Reps K F ds vs → ds.length = vs.length
  | [], vs, h => by unfold Reps at h; subst h; rfl
  | d :: ds, vs, h => by
    unfold Reps at h
    obtain ⟨v, r, e, a, b⟩ := h
    subst e
    simp [Reps.length b]
theorem Reps.get : ∀ {ds : List D} {vs : List V} {i : Nat} {d : D}, Reps K F ds vs → ds[i]? = some d → ∃ v, vs[i]? = some v ∧ Rep K F d v
  | [], _, _, _, _, e => by simp at e
  | d :: ds, vs, 0, x, h, e => by
    unfold Reps at h
    obtain ⟨v, r, rfl, a, b⟩ := h
    simp at e; subst e
    exact ⟨v, rfl, a⟩
  | d :: ds, vs, i + 1, x, h, e => by
    unfold Reps at h
    obtain ⟨v, r, rfl, a, b⟩ := h
    simp at e
    obtain ⟨w, h1, h2⟩ := Reps.get b e
    exact ⟨w, by simpa using h1, h2⟩
theorem Reps.append : ∀ {ds es : List D} {vs ws : List V}, Reps K F ds vs → Reps K F es ws → Reps K F (ds ++ es) (vs ++ ws)
  | [], _, vs, _, h, t => by unfold Reps at h; subst h; exact t
  | d :: ds, es, vs, ws, h, t => by
    unfold Reps at h
    obtain ⟨v, r, rfl, a, b⟩ := h
    exact Reps.cons a (Reps.append b t)
theorem Reps.take : ∀ {ds : List D} {vs : List V} (n : Nat), Reps K F ds vs → Reps K F (ds.take n) (vs.take n)
  | _, _, 0, _ => Reps.nil
  | [], vs, n + 1, h => by unfold Reps at h; subst h; exact Reps.nil
  | d :: ds, vs, n + 1, h => by
    unfold Reps at h
    obtain ⟨v, r, rfl, a, b⟩ := h
    exact Reps.cons a (Reps.take n b)
theorem Reps.drop : ∀ {ds : List D} {vs : List V} (n : Nat), Reps K F ds vs → Reps K F (ds.drop n) (vs.drop n)
  | _, _, 0, h => h
  | [], vs, n + 1, h => by unfold Reps at h; subst h; exact Reps.nil
  | d :: ds, vs, n + 1, h => by
    unfold Reps at h
    obtain ⟨v, r, rfl, a, b⟩ := h
    exact Reps.drop n b
theorem Reps.set : ∀ {ds : List D} {vs : List V} {d : D} {v : V} (n : Nat), Reps K F ds vs → Rep K F d v → Reps K F (ds.set n d) (vs.set n v)
  | [], vs, _, _, n, h, _ => by unfold Reps at h; subst h; exact Reps.nil
  | d :: ds, vs, _, _, 0, h, q => by
    unfold Reps at h
    obtain ⟨v, r, rfl, a, b⟩ := h
    exact Reps.cons q b
  | d :: ds, vs, _, _, n + 1, h, q => by
    unfold Reps at h
    obtain ⟨v, r, rfl, a, b⟩ := h
    exact Reps.cons a (Reps.set n b q)
theorem Reps.eraseIdx : ∀ {ds : List D} {vs : List V} (n : Nat), Reps K F ds vs → Reps K F (ds.eraseIdx n) (vs.eraseIdx n)
  | [], vs, n, h => by unfold Reps at h; subst h; exact Reps.nil
  | d :: ds, vs, 0, h => by
    unfold Reps at h
    obtain ⟨v, r, rfl, a, b⟩ := h
    exact b
  | d :: ds, vs, n + 1, h => by
    unfold Reps at h
    obtain ⟨v, r, rfl, a, b⟩ := h
    exact Reps.cons a (Reps.eraseIdx n b)
theorem Reps.rep {ds : List D} {vs : List V} (h : Reps K F ds vs) : ∀ k : Nat, Reps K F (List.replicate k ds).flatten (List.replicate k vs).flatten
  | 0 => by simpa using Reps.nil
  | k + 1 => by
    rw [List.replicate_succ, List.replicate_succ, List.flatten_cons, List.flatten_cons]
    exact Reps.append h (Reps.rep h k)
theorem Reps.dropLast {ds : List D} {vs : List V} (h : Reps K F ds vs) : Reps K F ds.dropLast vs.dropLast := by
  rw [List.dropLast_eq_take, List.dropLast_eq_take, h.length]; exact Reps.take _ h
theorem FsRep.mono {ns : List Str} {fs : List (Option D)} {kvs : List (Str × V)} (s : Le F F') (h : FsRep K F ns fs kvs) : FsRep K F' ns fs kvs :=
  ⟨h.nd, h.len, h.small, h.cnt, fun k f d h1 h2 => let ⟨v, a, b⟩ := h.at_ k f d h1 h2; ⟨v, a, Rep.mono s d v b⟩, h.no, h.out⟩
theorem pairedMono {kvs : List (Str × D)} {ws : List (L2.Key × V)} (s : Le F F') (h : Paired (fun (p : Str × D) (q : L2.Key × V) => q.1 = Sum.inr p.1 ∧ Rep K F p.2 q.2) kvs ws) : Paired (fun (p : Str × D) (q : L2.Key × V) => q.1 = Sum.inr p.1 ∧ Rep K F' p.2 q.2) kvs ws :=
  Paired.mapP h fun _ _ q => ⟨q.1, Rep.mono s _ _ q.2⟩
theorem ObRep.mono {a : Addr} {o : Ob} (s : Le F F') (e : ∀ x, H a = some x → H' a = some x) (h : ObRep K F H a o) : ObRep K F' H' a o := by
  cases o with
  | lst xs => obtain ⟨vs, h1, h2⟩ := h; exact ⟨vs, e _ h1, Reps.mono s _ _ h2⟩
  | inst c fs => obtain ⟨C, ns, dx, kvs, h1, h2, h3⟩ := h; exact ⟨C, ns, dx, kvs, by rw [s.cl]; exact h1, e _ h2, h3.mono s⟩
  | dic kvs => obtain ⟨ws, h1, h2⟩ := h; exact ⟨ws, e _ h1, pairedMono s h2⟩
theorem ObRep.there {a : Addr} {o : Ob} (h : ObRep K F H a o) : ∃ x, H a = some x := by
  cases o with
  | lst xs => obtain ⟨vs, h1, h2⟩ := h; exact ⟨_, h1⟩
  | inst c fs => obtain ⟨C, ns, dx, kvs, h1, h2, h3⟩ := h; exact ⟨_, h2⟩
  | dic kvs => obtain ⟨ws, h1, h2⟩ := h; exact ⟨_, h1⟩
theorem Ok.there (k : Ok K F H) {n : Nat} {a : Addr} (h : F.al[n]? = some a) : ∃ x, H a = some x := by
  have hl := (List.getElem?_eq_some_iff.mp h).1
  rw [k.len] at hl
  obtain ⟨b, h1, h2⟩ := k.ob n _ (List.getElem?_eq_getElem hl)
  rw [h] at h1; cases h1
  exact h2.there
theorem Ok.thereM (k : Ok K F H) {a : Addr} (h : a ∈ F.al) : ∃ x, H a = some x := by
  obtain ⟨n, hn⟩ := List.getElem?_of_mem h
  exact k.there hn
/-- a place that is free in the heap -/
theorem Ok.free (k : Ok K F H) {p : Addr} (h : H p = none) : F.fr p := by
  refine ⟨?_, fun z => ?_⟩
  · cases q : F.h p with
    | none => rfl
    | some o => rw [k.sub p o q] at h; cases h
  · obtain ⟨x, e⟩ := k.thereM z
    rw [e] at h; cases h
/-- the store's things are untouched; the fixed part may grow -/
theorem Ok.grow (k : Ok K F H) (s : Le F F') (ha : F'.al = F.al) (hs : F'.st = F.st) (sub : Same F'.h H') (hf : ∀ a ∈ F.al, F'.h a = none) (hh : ∀ a ∈ F.al, ∀ x, H a = some x → H' a = some x) : Ok K F' H' :=
  ⟨sub, by rw [ha]; exact k.inj, by rw [ha, hs]; exact k.len, fun n a h => by rw [ha] at h; exact hf a (List.mem_of_getElem? h), fun n o h => by
    rw [hs] at h
    obtain ⟨a, h1, h2⟩ := k.ob n o h
    exact ⟨a, by rw [ha]; exact h1, h2.mono s (hh a (List.mem_of_getElem? h1))⟩⟩
theorem Ext.refl (k : Ok K F H) : Ext K F H F H := ⟨fun _ _ _ h => h, Le.refl _, fun _ _ h _ => h, k, k⟩
theorem Ext.trans (a : Ext K F H F1 H1) (b : Ext K F1 H1 F2 H2) : Ext K F H F2 H2 :=
  ⟨fun x o h e => b.sh x o (a.new x o h e) (a.sh x o h e), a.le.trans b.le, fun x o h1 h2 => b.new x o (a.new x o h1 h2) (a.sh x o h1 h2), a.ok0, b.ok⟩
theorem Ext.free (e : Ext K F H F' H') {p : Addr} (h : H' p = none) : H p = none := by
  cases q : H p with
  | none => rfl
  | some o =>
    exfalso
    cases r : F.h p with
    | some u => rw [e.ok.sub p u (e.le.h p u r)] at h; cases h
    | none =>
      by_cases m : p ∈ F.al
      · obtain ⟨n, hn⟩ := List.getElem?_of_mem m
        obtain ⟨x, hx⟩ := e.ok.there (e.le.al n p hn)
        rw [hx] at h; cases h
      · rw [e.sh p o ⟨r, m⟩ q] at h; cases h
/-- a new thing in the heap: the fixed part may take it -/
theorem Ext.of (k : Ok K F H) {p : Addr} (n : H p = none) {o : HO} : Ext K F H F (upd H p o) := by
  have hf := k.free n
  refine ⟨fun b x _ e => by rw [upd_ne (ne_of_none e n)]; exact e, Le.refl _, fun _ _ h _ => h, k, k.grow (Le.refl _) rfl rfl (fun b x e => by rw [upd_ne (ne_of_none (k.sub b x e) n)]; exact k.sub b x e) (fun a m => by
    obtain ⟨i, hi⟩ := List.getElem?_of_mem m; exact k.fz i a hi) fun a m x e => by rw [upd_ne (ne_of_none e n)]; exact e⟩
abbrev Fz.add (F : Fz) (p : Addr) (o : HO) : Fz := { F with h := upd F.h p o }
theorem Le.add {p : Addr} {o : HO} (h : F.h p = none) : Le F (F.add p o) := ⟨same_upd h, fun _ _ h => h, rfl⟩
theorem Fz.add_fr {F : Fz} {p b : Addr} {o : HO} (h : F.fr b) (n : b ≠ p) : (F.add p o).fr b := ⟨by show upd F.h p o b = none; rw [upd_ne n]; exact h.1, h.2⟩
/-- a local list is fixed -/
theorem Ok.fix (k : Ok K F H) {p : Addr} {o : HO} (h : F.fr p) (e : H p = some o) : Ok K (F.add p o) H :=
  k.grow (Le.add h.1) rfl rfl (fun b x z => by
    by_cases q : b = p
    · subst q
      have z' : upd F.h b o b = some x := z
      rw [upd_same] at z'; rw [e]; exact z'
    · have z' : upd F.h p o b = some x := z
      rw [upd_ne q] at z'; exact k.sub b x z') (fun a m => by
      have n : a ≠ p := fun z => h.2 (z ▸ m)
      show upd F.h p o a = none
      rw [upd_ne n]
      obtain ⟨i, hi⟩ := List.getElem?_of_mem m
      exact k.fz i a hi) fun _ _ _ z => z
/-- what was new is fixed -/
theorem Ext.fix (x : Ext K F H F' H') {p : Addr} {o : HO} (h : F'.fr p) (e : H' p = some o) (n : H p = none) : Ext K F H (F'.add p o) H' :=
  ⟨x.sh, x.le.trans (Le.add h.1), fun b u h1 h2 => Fz.add_fr (x.new b u h1 h2) (ne_of_none h2 n), x.ok0, x.ok.fix h e⟩
/-- a new tuple -/
theorem Ext.tup (k : Ok K F H) {p : Addr} (h : H p = none) (vs : List V) : Ext K F H (F.add p (.tup vs)) (upd H p (.tup vs)) :=
  (Ext.of k h).fix (k.free h) upd_same h
/-- a new list that is owned -/
theorem Ext.new1 (k : Ok K F H) {p : Addr} (h : H p = none) (o : HO) : Ext K F H F (upd H p o) := Ext.of k h
/-- a local list is written -/
theorem Ok.write (k : Ok K F H) {p : Addr} {o : HO} (h : F.fr p) : Ok K F (upd H p o) :=
  k.grow (Le.refl _) rfl rfl (fun b x e => by rw [upd_ne (ne_of_none e h.1)]; exact k.sub b x e) (fun a m => by
    obtain ⟨i, hi⟩ := List.getElem?_of_mem m; exact k.fz i a hi) fun a m x e => by
    have n : a ≠ p := fun z => h.2 (z ▸ m)
    rw [upd_ne n]; exact e
theorem Ext.write (x : Ext K F H F' H') {p : Addr} {o : HO} (h : F'.fr p) (n : H p = none) : Ext K F H F' (upd H' p o) :=
  ⟨fun b u h1 h2 => by rw [upd_ne (ne_of_none h2 n)]; exact x.sh b u h1 h2, x.le, x.new, x.ok0, x.ok.write h⟩
/-! ### the store -/
abbrev Fz.push (F : Fz) (a : Addr) (o : Ob) : Fz := { F with al := F.al ++ [a], st := F.st ++ [o] }
theorem Le.push {a : Addr} {o : Ob} : Le F (F.push a o) := ⟨Same.refl _, fun n b h => by
  show (F.al ++ [a])[n]? = some b
  rw [List.getElem?_append_left (List.getElem?_eq_some_iff.mp h).1]; exact h, rfl⟩
theorem Ok.push (k : Ok K F H) {a : Addr} {o : Ob} (h : F.fr a) (r : ObRep K (F.push a o) H a o) : Ok K (F.push a o) H := by
  have at_ : ∀ (i : Nat) b, (F.al ++ [a])[i]? = some b → F.al[i]? = some b ∨ i = F.al.length ∧ b = a := fun i b z => by
    by_cases hi : i < F.al.length
    · rw [List.getElem?_append_left hi] at z; exact .inl z
    · rw [List.getElem?_append_right (by omega)] at z
      have hz := (List.getElem?_eq_some_iff.mp z)
      have hl : i - F.al.length < 1 := hz.1
      have : i - F.al.length = 0 := by omega
      rw [this] at z
      cases z
      exact .inr ⟨by omega, rfl⟩
  refine ⟨k.sub, fun i j b z1 z2 => ?_, by simp [k.len], fun n b z => ?_, fun n u z => ?_⟩
  · rcases at_ i b z1 with y1 | ⟨y1, e1⟩ <;> rcases at_ j b z2 with y2 | ⟨y2, e2⟩
    · exact k.inj i j b y1 y2
    · exact absurd (List.mem_of_getElem? y1) (e2 ▸ h.2)
    · exact absurd (List.mem_of_getElem? y2) (e1 ▸ h.2)
    · omega
  · rcases at_ n b z with z | ⟨_, rfl⟩
    · exact k.fz n b z
    · exact h.1
  · have z' : (F.st ++ [o])[n]? = some u := z
    by_cases hn : n < F.st.length
    · rw [List.getElem?_append_left hn] at z'
      obtain ⟨b, h1, h2⟩ := k.ob n u z'
      exact ⟨b, Le.push.al n b h1, h2.mono Le.push fun _ e => e⟩
    · rw [List.getElem?_append_right (by omega)] at z'
      have hz := (List.getElem?_eq_some_iff.mp z')
      have hl : n - F.st.length < 1 := hz.1
      have e0 : n - F.st.length = 0 := by omega
      rw [e0] at z'
      cases z'
      have e1 : n = F.al.length := by rw [k.len]; omega
      subst e1
      exact ⟨a, by show (F.al ++ [a])[F.al.length]? = some a; simp, r⟩
/-- something new goes into the store -/
theorem Ext.push (x : Ext K F H F' H') {a : Addr} {o : Ob} (h : F'.fr a) (n : H a = none) (r : ObRep K (F'.push a o) H' a o) : Ext K F H (F'.push a o) H' :=
  ⟨x.sh, x.le.trans Le.push, fun b u h1 h2 => ⟨(x.new b u h1 h2).1, fun z => by
    rcases List.mem_append.mp z with z | z
    · exact (x.new b u h1 h2).2 z
    · exact ne_of_none h2 n (List.mem_singleton.mp z)⟩, x.ok0, x.ok.push h r⟩
abbrev Fz.wr (F : Fz) (n : Nat) (o : Ob) : Fz := { F with st := F.st.set n o }
theorem Le.wr {n : Nat} {o : Ob} : Le F (F.wr n o) := ⟨Same.refl _, fun _ _ h => h, rfl⟩
/-- a thing of the store is written -/
theorem Ext.wr (k : Ok K F H) {n : Nat} {a : Addr} {o : Ob} {u : HO} (ha : F.al[n]? = some a) (r : ObRep K (F.wr n o) (upd H a u) a o) : Ext K F H (F.wr n o) (upd H a u) := by
  have hm := List.mem_of_getElem? ha
  have nf : ∀ b, F.fr b → b ≠ a := fun b z e => z.2 (e ▸ hm)
  have nh : ∀ b x, F.h b = some x → b ≠ a := fun b x z e => by rw [e, k.fz n a ha] at z; cases z
  refine ⟨fun b x z e => by rw [upd_ne (nf b z)]; exact e, Le.wr, fun b _ z _ => z, k, ⟨fun b x e => by rw [upd_ne (nh b x e)]; exact k.sub b x e, k.inj, by simp [k.len], k.fz, fun m v z => ?_⟩⟩
  have z' : (F.st.set n o)[m]? = some v := z
  by_cases hmn : n = m
  · subst hmn
    have hl : n < F.st.length := by rw [← k.len]; exact (List.getElem?_eq_some_iff.mp ha).1
    rw [List.getElem?_set_self hl] at z'
    cases z'
    exact ⟨a, ha, r⟩
  · rw [List.getElem?_set_ne hmn] at z'
    obtain ⟨b, h1, h2⟩ := k.ob m v z'
    have hb : b ≠ a := fun e => hmn (k.inj n m a ha (e ▸ h1))
    exact ⟨b, h1, h2.mono Le.wr fun x e => by rw [upd_ne hb]; exact e⟩
/-! ### views -/
theorem Rep.view (k : Ok K F H) : ∀ {d : D} {v : V}, Rep K F d v → View K F H d v
  | .non, _, h => h
  | .bl _, _, h => h
  | .int _, _, h => h
  | .str _, _, h => h
  | .tup xs, v, h => h
  | .scr xs, v, h => h
  | .obj n, v, h => h
  | .lst xs, v, h => by
    unfold Rep at h
    obtain ⟨a, vs, e, q, r⟩ := h
    exact ⟨a, vs, e, k.sub _ _ q, r⟩
theorem RepR.view (k : Ok K F' H') : ∀ {r : R} {v : V}, RepR K H F' H' r v → View K F' H' r.view v
  | .val d, v, h => Rep.view k h
  | .own xs, v, ⟨a, vs, e, q, _, _, r⟩ => ⟨a, vs, e, q, r⟩
  | .bor xs, v, ⟨a, vs, e, q, _, r⟩ => ⟨a, vs, e, q, r⟩
theorem View.tup {xs : List D} {v : V} (h : View K F H (.tup xs) v) (s : Ok K F H) : ∃ a vs, v = .ref a ∧ SqT K H a vs ∧ Reps K F xs vs := by
  have h' : Rep K F (.tup xs) v := h
  unfold Rep at h'
  obtain ⟨a, vs, e, q, r⟩ := h'
  exact ⟨a, vs, e, Same.seqT s.sub q, r⟩
theorem RepR.ext {H0 : Hp} (e : Ext K F H F' H') : ∀ {r : R} {v : V}, RepR K H0 F H r v → RepR K H0 F' H' r v
  | .val d, v, h => Rep.mono e.le d v h
  | .own xs, v, ⟨a, vs, e1, q, q2, q3, r⟩ => ⟨a, vs, e1, e.sh _ _ q2 q, e.new _ _ q2 q, q3, Reps.mono e.le _ _ r⟩
  | .bor xs, v, ⟨a, vs, e1, q, q2, r⟩ => ⟨a, vs, e1, e.sh _ _ q2 q, e.new _ _ q2 q, Reps.mono e.le _ _ r⟩
theorem RepR.back {H0 : Hp} (s : ∀ a, H a = none → H0 a = none) : ∀ {r : R} {v : V}, RepR K H F' H' r v → RepR K H0 F' H' r v
  | .val d, v, h => h
  | .own xs, v, ⟨a, vs, e1, q, q2, q3, r⟩ => ⟨a, vs, e1, q, q2, s a q3, r⟩
  | .bor xs, v, h => h
theorem fix_inv {r : R} {d : D} {st st' : Store} (e : R.fix r st = .ok d st') : st' = st ∧ (r = .val d ∨ ∃ xs, r = .own xs ∧ d = .lst xs) := by
  cases r with
  | val x =>
    have e' : (Out.ok x st : Out D) = .ok d st' := e
    cases e'; exact ⟨rfl, .inl rfl⟩
  | own xs =>
    have e' : (Out.ok (.lst xs) st : Out D) = .ok d st' := e
    cases e'; exact ⟨rfl, .inr ⟨xs, rfl, rfl⟩⟩
  | bor xs => cases e
/-- the value is handed on -/
theorem RepR.fixE {F : Fz} {H : Hp} {r : R} {d : D} {v : V} {st st' : Store} (x : Ext K F H F' H') (h : RepR K H F' H' r v) (e : R.fix r st = .ok d st') : ∃ F2, F2.st = F'.st ∧ Ext K F H F2 H' ∧ Rep K F2 d v ∧ Le F' F2 := by
  rcases (fix_inv e).2 with rfl | ⟨xs, rfl, rfl⟩
  · exact ⟨F', rfl, x, h, Le.refl _⟩
  · obtain ⟨a, vs, rfl, q, q2, q3, r⟩ := h
    refine ⟨F'.add a (.lst vs), rfl, x.fix q2 q q3, ?_, Le.add q2.1⟩
    unfold Rep
    exact ⟨a, vs, rfl, upd_same, Reps.mono (Le.add q2.1) _ _ r⟩
end

/-! ### slots -/
/-- what stays through a def: its start; the classes of errors; the error that a suite holds -/
structure Z0 where
  F0 : Fz
  H0 : Hp
  cls : Nat → Value
  hx : Option (Addr × Nat × Nat)
structure Rel (K : PySem.W.Frag) (Z : Z0) (F : Fz) (ss : List S) (σ : L2.St) (H : Hp) : Prop where
  ext : Ext K Z.F0 Z.H0 F H
  len : ss.length = σ.length
  val : ∀ (i : Nat) d, ss[i]? = some (.val d) → ∃ v, σ[i]? = some (some v) ∧ Rep K F d v
  own : ∀ (i : Nat) xs, ss[i]? = some (.own xs) → ∃ a vs, σ[i]? = some (some (.ref a)) ∧ H a = some (.lst vs) ∧ F.fr a ∧ Z.H0 a = none ∧ Reps K F xs vs
  dis : ∀ (i j : Nat) xs ys a, i ≠ j → ss[i]? = some (.own xs) → ss[j]? = some (.own ys) → σ[i]? = some (some (.ref a)) → σ[j]? = some (some (.ref a)) → False
  exc : ∀ (i : Nat) c, ss[i]? = some (.exc c) → ∃ a, Z.hx = some (a, c, i) ∧ σ[i]? = some (some (.ref a))
theorem set_cases {α : Type} {ss : List α} {i j : Nat} {x y : α} (h : (ss.set i x)[j]? = some y) : (i = j ∧ i < ss.length ∧ y = x) ∨ (i ≠ j ∧ ss[j]? = some y) := by
  by_cases hj : i = j
  · subst hj
    by_cases hl : i < ss.length
    · rw [List.getElem?_set_self hl] at h
      cases h
      exact .inl ⟨rfl, hl, rfl⟩
    · rw [List.getElem?_eq_none (by simpa using hl)] at h; cases h
  · rw [List.getElem?_set_ne hj] at h
    exact .inr ⟨hj, h⟩
section
variable {K : PySem.W.Frag} {Z : Z0} {F F' : Fz} {H H' : Hp} {ss : List S} {σ : L2.St}
theorem Rel.ok (r : Rel K Z F ss σ H) : Ok K F H := r.ext.ok
theorem Rel.grow (r : Rel K Z F ss σ H) (e : Ext K F H F' H') : Rel K Z F' ss σ H' where
  ext := r.ext.trans e
  len := r.len
  val := fun i d h => let ⟨v, a, b⟩ := r.val i d h; ⟨v, a, Rep.mono e.le d v b⟩
  own := fun i xs h => let ⟨a, vs, h1, h2, h3, h4, h5⟩ := r.own i xs h; ⟨a, vs, h1, e.sh _ _ h3 h2, e.new _ _ h3 h2, h4, Reps.mono e.le _ _ h5⟩
  dis := r.dis
  exc := r.exc
theorem Rel.get {i : Nat} {x : S} {v : V} (r : Rel K Z F ss σ H) (h : ss[i]? = some x) : i < σ.length := by
  rw [← r.len]
  exact (List.getElem?_eq_some_iff.mp h).1
theorem Rel.lt {i : Nat} (r : Rel K Z F ss σ H) (h : i < ss.length) : i < σ.length := r.len ▸ h
/-- a slot gets a frozen value -/
theorem Rel.set {i : Nat} {d : D} {v : V} (r : Rel K Z F ss σ H) (q : Rep K F d v) : Rel K Z F (ss.set i (.val d)) (σ.set i (some v)) H where
  ext := r.ext
  len := by simp [r.len]
  val := fun j e h => by
    rcases set_cases h with ⟨rfl, hl, z⟩ | ⟨n, z⟩
    · cases z
      exact ⟨v, by rw [List.getElem?_set_self (r.lt hl)], q⟩
    · rw [List.getElem?_set_ne n]; exact r.val j e z
  own := fun j xs h => by
    rcases set_cases h with ⟨rfl, hl, z⟩ | ⟨n, z⟩
    · cases z
    · rw [List.getElem?_set_ne n]; exact r.own j xs z
  dis := fun j k xs ys a n h1 h2 h3 h4 => by
    rcases set_cases h1 with ⟨rfl, hl, z⟩ | ⟨n1, z1⟩
    · cases z
    · rcases set_cases h2 with ⟨rfl, hl, z⟩ | ⟨n2, z2⟩
      · cases z
      · rw [List.getElem?_set_ne n1] at h3
        rw [List.getElem?_set_ne n2] at h4
        exact r.dis j k xs ys a n z1 z2 h3 h4
  exc := fun j c h => by
    rcases set_cases h with ⟨rfl, hl, z⟩ | ⟨n, z⟩
    · cases z
    · rw [List.getElem?_set_ne n]; exact r.exc j c z
/-- a slot is forgotten, whatever stands there -/
theorem Rel.emp {i : Nat} {o : Option V} (r : Rel K Z F ss σ H) : Rel K Z F (ss.set i .emp) (σ.set i o) H where
  ext := r.ext
  len := by simp [r.len]
  val := fun j e h => by
    rcases set_cases h with ⟨rfl, hl, z⟩ | ⟨n, z⟩
    · cases z
    · rw [List.getElem?_set_ne n]; exact r.val j e z
  own := fun j xs h => by
    rcases set_cases h with ⟨rfl, hl, z⟩ | ⟨n, z⟩
    · cases z
    · rw [List.getElem?_set_ne n]; exact r.own j xs z
  dis := fun j k xs ys a n h1 h2 h3 h4 => by
    rcases set_cases h1 with ⟨rfl, hl, z⟩ | ⟨n1, z1⟩
    · cases z
    · rcases set_cases h2 with ⟨rfl, hl, z⟩ | ⟨n2, z2⟩
      · cases z
      · rw [List.getElem?_set_ne n1] at h3
        rw [List.getElem?_set_ne n2] at h4
        exact r.dis j k xs ys a n z1 z2 h3 h4
  exc := fun j c h => by
    rcases set_cases h with ⟨rfl, hl, z⟩ | ⟨n, z⟩
    · cases z
    · rw [List.getElem?_set_ne n]; exact r.exc j c z
theorem Rel.wipe (r : Rel K Z F ss σ H) : ∀ vs : List Nat, Rel K Z F (wipe ss vs) (L2.wipe σ vs) H
  | [] => r
  | v :: vs => (Rel.wipe r vs).emp
/-- a slot gets a new list that nobody else holds; or the list of a slot is changed -/
theorem Rel.setOwn {i : Nat} {xs : List D} {a : Addr} {vs : List V} (r : Rel K Z F ss σ H) (h : H a = some (.lst vs)) (hf : F.fr a) (h0 : Z.H0 a = none) (q : Reps K F xs vs)
    (hd : ∀ (j : Nat) ys, j ≠ i → ss[j]? = some (.own ys) → σ[j]? = some (some (.ref a)) → False) : Rel K Z F (ss.set i (.own xs)) (σ.set i (some (.ref a))) H where
  ext := r.ext
  len := by simp [r.len]
  val := fun j e h => by
    rcases set_cases h with ⟨rfl, hl, z⟩ | ⟨n, z⟩
    · cases z
    · rw [List.getElem?_set_ne n]; exact r.val j e z
  own := fun j ys e => by
    rcases set_cases e with ⟨rfl, hl, z⟩ | ⟨n, z⟩
    · cases z
      exact ⟨a, vs, by rw [List.getElem?_set_self (r.lt hl)], h, hf, h0, q⟩
    · rw [List.getElem?_set_ne n]; exact r.own j ys z
  dis := fun j k ys zs b n h1 h2 h3 h4 => by
    rcases set_cases h1 with ⟨rfl, hl, z⟩ | ⟨n1, z1⟩
    · rw [List.getElem?_set_self (r.lt hl)] at h3
      cases h3
      rw [List.getElem?_set_ne n] at h2 h4
      exact hd k zs (Ne.symm n) h2 h4
    · rcases set_cases h2 with ⟨rfl, hl, z⟩ | ⟨n2, z2⟩
      · rw [List.getElem?_set_self (r.lt hl)] at h4
        cases h4
        rw [List.getElem?_set_ne n1] at h3
        exact hd j ys n z1 h3
      · rw [List.getElem?_set_ne n1] at h3
        rw [List.getElem?_set_ne n2] at h4
        exact r.dis j k ys zs b n z1 z2 h3 h4
  exc := fun j c h => by
    rcases set_cases h with ⟨rfl, hl, z⟩ | ⟨n, z⟩
    · cases z
    · rw [List.getElem?_set_ne n]; exact r.exc j c z
/-- the heap of an owned list is let go -/
theorem Rel.lose {i : Nat} {xs : List D} {a : Addr} (r : Rel K Z F ss σ H) (hs : ss[i]? = some (.own xs)) (hσ : σ[i]? = some (some (.ref a))) (e : Ext K Z.F0 Z.H0 F' H') (le : Le F F')
    (hk : ∀ b o, b ≠ a → F.fr b → H b = some o → H' b = some o ∧ F'.fr b) : Rel K Z F' (ss.set i .emp) σ H' where
  ext := e
  len := by simp [r.len]
  val := fun j d h => by
    rcases set_cases h with ⟨rfl, hl, z⟩ | ⟨n, z⟩
    · cases z
    · obtain ⟨v, h1, h2⟩ := r.val j d z
      exact ⟨v, h1, Rep.mono le _ _ h2⟩
  own := fun j zs h => by
    rcases set_cases h with ⟨rfl, hl, z⟩ | ⟨n, z⟩
    · cases z
    · obtain ⟨b, ws, h1, h2, h3, h4, h5⟩ := r.own j zs z
      have hb : b ≠ a := fun y => by subst y; exact r.dis i j xs zs b n hs z hσ h1
      obtain ⟨q1, q2⟩ := hk b _ hb h3 h2
      exact ⟨b, ws, h1, q1, q2, h4, Reps.mono le _ _ h5⟩
  dis := fun j k ys zs b n h1 h2 h3 h4 => by
    rcases set_cases h1 with ⟨rfl, hl, z⟩ | ⟨n1, z1⟩
    · cases z
    · rcases set_cases h2 with ⟨rfl, hl, z⟩ | ⟨n2, z2⟩
      · cases z
      · exact r.dis j k ys zs b n z1 z2 h3 h4
  exc := fun j c h => by
    rcases set_cases h with ⟨rfl, hl, z⟩ | ⟨n, z⟩
    · cases z
    · exact r.exc j c z
theorem set_self {σ : L2.St} {i : Nat} {v : V} (h : σ[i]? = some (some v)) : σ.set i (some v) = σ := by
  apply List.ext_getElem?
  intro j
  by_cases hj : i = j
  · subst hj; rw [List.getElem?_set_self (List.getElem?_eq_some_iff.mp h).1, h]
  · rw [List.getElem?_set_ne hj]
/-- the list of slot i is written -/
theorem Rel.write {i : Nat} {xs ys : List D} {a : Addr} {us vs : List V} (r : Rel K Z F ss σ H) (hs : ss[i]? = some (.own xs)) (hσ : σ[i]? = some (some (.ref a))) (h : H a = some (.lst us)) (hf : F.fr a) (h0 : Z.H0 a = none) (q : Reps K F ys vs) :
    Rel K Z F (ss.set i (.own ys)) σ (upd H a (.lst vs)) := by
  have base : Rel K Z F (ss.set i .emp) σ (upd H a (.lst vs)) := r.lose hs hσ (r.ext.write hf h0) (Le.refl _) fun b o n f e => ⟨by rw [upd_ne n]; exact e, f⟩
  have w := base.setOwn (i := i) (xs := ys) (a := a) (vs := vs) upd_same hf h0 q (fun j zs n z1 z2 => by
    rw [List.getElem?_set_ne (Ne.symm n)] at z1
    exact r.dis j i zs xs a n z1 hs z2 hσ)
  have e1 : (ss.set i .emp).set i (.own ys) = ss.set i (.own ys) := by simp
  rw [e1, set_self hσ] at w
  exact w
/-- the list of slot i is held by many from now on -/
theorem Rel.frz {i : Nat} {xs : List D} (r : Rel K Z F ss σ H) (hs : ss[i]? = some (.own xs)) : ∃ F', F'.st = F.st ∧ Rel K Z F' (ss.set i (.val (.lst xs))) σ H ∧ Le F F' := by
  obtain ⟨a, vs, h1, h2, h3, h4, h5⟩ := r.own i xs hs
  have le : Le F (F.add a (.lst vs)) := Le.add h3.1
  refine ⟨F.add a (.lst vs), rfl, ?_, le⟩
  have base : Rel K Z (F.add a (.lst vs)) (ss.set i .emp) σ H := r.lose hs h1 (r.ext.fix h3 h2 h4) le fun b o n f e => ⟨e, Fz.add_fr f n⟩
  have w := base.set (i := i) (d := .lst xs) (v := .ref a) (by unfold Rep; exact ⟨a, vs, rfl, upd_same, Reps.mono le _ _ h5⟩)
  have e1 : (ss.set i .emp).set i (.val (.lst xs)) = ss.set i (.val (.lst xs)) := by simp
  rw [e1, set_self h1] at w
  exact w
/-- the list of slot i goes into the store -/
theorem Rel.bxs {i : Nat} {xs : List D} (r : Rel K Z F ss σ H) (hs : ss[i]? = some (.own xs)) : ∃ F', F'.st = F.st ++ [.lst xs] ∧ Rel K Z F' (ss.set i (.val (.obj F.st.length))) σ H ∧ Le F F' := by
  obtain ⟨a, vs, h1, h2, h3, h4, h5⟩ := r.own i xs hs
  have le : Le F (F.push a (.lst xs)) := Le.push
  refine ⟨F.push a (.lst xs), rfl, ?_, le⟩
  have base : Rel K Z (F.push a (.lst xs)) (ss.set i .emp) σ H := r.lose hs h1 (r.ext.push h3 h4 ⟨vs, h2, Reps.mono le _ _ h5⟩) le fun b o n f e => ⟨e, f.1, fun z => by
    rcases List.mem_append.mp z with z | z
    · exact f.2 z
    · exact n (List.mem_singleton.mp z)⟩
  have w := base.set (i := i) (d := .obj F.st.length) (v := .ref a) (by unfold Rep; exact ⟨a, rfl, by rw [← r.ok.len]; show (F.al ++ [a])[F.al.length]? = some a; simp⟩)
  have e1 : (ss.set i .emp).set i (.val (.obj F.st.length)) = ss.set i (.val (.obj F.st.length)) := by simp
  rw [e1, set_self h1] at w
  exact w
end
end EV

set_option Elab.async false
set_option linter.all false
set_option autoImplicit false
set_option maxRecDepth 100000
set_option maxHeartbeats 2000000
/-! EwB2: the ends of expressions; operators and comparisons. -/
namespace EV
open PySem PySem.Spec PyProof.Rows L2

section
variable (K : PySem.W.Frag) (Z : Z0) (W : WX)
/-- what is wanted of an end -/
def PostM {α : Type} (m : M α) (F : Fz) (H : Hp) (σ : L2.St) (Q : α → Fz → Hp → Prop) : Prop := match m F.st with
  | .ok a st => ∀ F' H', F'.st = st → Ext K F H F' H' → Q a F' H'
  | .ex c st => ∀ F' H', F'.st = st → Ext K F H F' H' → W (Z.cls c) none σ H'
  | .bad => False
def PostE (m : M R) (F : Fz) (H : Hp) (σ : L2.St) (Q : VK) : Prop := PostM K Z W m F H σ fun r F' H' => ∀ v, RepR K H F' H' r v → Q v H'
def PostB (m : M Bool) (F : Fz) (H : Hp) (σ : L2.St) (Q : Bool → Hp → Prop) : Prop := PostM K Z W m F H σ fun b F' H' => Q b H'
def PostRs (m : M (List R)) (F : Fz) (H : Hp) (σ : L2.St) (Q : List V → Hp → Prop) : Prop := PostM K Z W m F H σ fun rs F' H' => ∀ vs, Paired (RepR K H F' H') rs vs → Q vs H'
def PostDs (m : M (List D)) (F : Fz) (H : Hp) (σ : L2.St) (Q : List V → Hp → Prop) : Prop := PostM K Z W m F H σ fun ds F' H' => ∀ vs, Reps K F' ds vs → Q vs H'
def PostO (m : M (Option Int)) (F : Fz) (H : Hp) (σ : L2.St) (Q : Option Int → Hp → Prop) : Prop := PostM K Z W m F H σ fun o F' H' => Q o H'
/-- the reading of an expression -/
def tE (f : List S → M R) : TE := fun σ H Q => ∃ F ss, Rel K Z F ss σ H ∧ PostE K Z W (f ss) F H σ Q
def tB (f : List S → M Bool) : TT := fun σ H Q => ∃ F ss, Rel K Z F ss σ H ∧ PostB K Z W (f ss) F H σ Q
def tRs (f : List S → M (List R)) : TA := fun σ H Q => ∃ F ss, Rel K Z F ss σ H ∧ PostRs K Z W (f ss) F H σ Q
def tDs (f : List S → M (List D)) : TA := fun σ H Q => ∃ F ss, Rel K Z F ss σ H ∧ PostDs K Z W (f ss) F H σ Q
def tOI (f : List S → M (Option Int)) : TO := fun σ H Q => ∃ F ss, Rel K Z F ss σ H ∧ PostO K Z W (f ss) F H σ Q
end
section
variable {K : PySem.W.Frag} {Z : Z0} {W : WX} {F F' F1 : Fz} {H H' H1 : Hp} {σ : L2.St} {Q : VK}
section
variable {α β : Type} {m : M α} {f : α → M β}
theorem PostM.bind {Q : β → Fz → Hp → Prop} (p : PostM K Z W (m.bind f) F H σ Q) : PostM K Z W m F H σ fun a F1 H1 => PostM K Z W (f a) F1 H1 σ Q := by
  unfold PostM at p ⊢
  unfold M.bind at p
  cases e : m F.st with
  | ok a st =>
    rw [e] at p
    dsimp only at p ⊢
    intro F1 H1 hs x
    subst hs
    cases e2 : f a F1.st with
    | ok b st2 => rw [e2] at p; exact fun F2 H2 h2 x2 => p F2 H2 h2 (x.trans x2)
    | ex c st2 => rw [e2] at p; exact fun F2 H2 h2 x2 => p F2 H2 h2 (x.trans x2)
    | bad => rw [e2] at p; exact (show False from p).elim
  | ex c st => rw [e] at p; exact p
  | bad => rw [e] at p; exact (show False from p).elim
theorem PostM.mono {Q Q' : α → Fz → Hp → Prop} (p : PostM K Z W m F H σ Q) (h : ∀ a F1 H1, m F.st = .ok a F1.st → Ext K F H F1 H1 → Q a F1 H1 → Q' a F1 H1) : PostM K Z W m F H σ Q' := by
  unfold PostM at p ⊢
  cases e : m F.st with
  | ok a st =>
    rw [e] at p
    intro F1 H1 hs x
    subst hs
    exact h a F1 H1 e x (p F1 H1 rfl x)
  | ex c st => rw [e] at p; exact p
  | bad => rw [e] at p; exact (show False from p).elim
theorem PostM.ok {Q : α → Fz → Hp → Prop} {a : α} (p : PostM K Z W (M.ok a) F H σ Q) {F' : Fz} {H' : Hp} (e : F'.st = F.st) (x : Ext K F H F' H') : Q a F' H' := p F' H' e x
theorem PostM.bad {Q : α → Fz → Hp → Prop} (p : PostM K Z W (M.bad : M α) F H σ Q) : False := p
theorem PostM.back {m : M R} {Q : VK} {H0 : Hp} (s : ∀ a, H a = none → H0 a = none) (p : PostM K Z W m F H σ fun r F' H' => ∀ v, RepR K H0 F' H' r v → Q v H') : PostE K Z W m F H σ Q :=
  PostM.mono p fun _ _ _ _ _ q v r => q v (RepR.back s r)
end
/-- first a part, then the rest -/
theorem PostE.bind {α : Type} {m : M α} {f : α → M R} (p : PostE K Z W (m.bind f) F H σ Q) : PostM K Z W m F H σ fun a F1 H1 => PostE K Z W (f a) F1 H1 σ Q :=
  PostM.mono (PostM.bind p) fun a F1 H1 _ x q => PostM.back (fun _ => x.free) q
theorem PostB.bind {α : Type} {m : M α} {f : α → M Bool} {Q : Bool → Hp → Prop} (p : PostB K Z W (m.bind f) F H σ Q) : PostM K Z W m F H σ fun a F1 H1 => PostB K Z W (f a) F1 H1 σ Q := PostM.bind p
theorem PostDs.bind {α : Type} {m : M α} {f : α → M (List D)} {Q : List V → Hp → Prop} (p : PostDs K Z W (m.bind f) F H σ Q) : PostM K Z W m F H σ fun a F1 H1 => PostDs K Z W (f a) F1 H1 σ Q := PostM.bind p
theorem PostO.bind {α : Type} {m : M α} {f : α → M (Option Int)} {Q : Option Int → Hp → Prop} (p : PostO K Z W (m.bind f) F H σ Q) : PostM K Z W m F H σ fun a F1 H1 => PostO K Z W (f a) F1 H1 σ Q := PostM.bind p
/-- a part that is itself an expression -/
theorem PostM.toE {m : M R} {Q : R → Fz → Hp → Prop} {Q' : VK} (p : PostM K Z W m F H σ Q) (h : ∀ r F1 H1 v, m F.st = .ok r F1.st → Ext K F H F1 H1 → Q r F1 H1 → RepR K H F1 H1 r v → Q' v H1) : PostE K Z W m F H σ Q' :=
  PostM.mono p fun r F1 H1 e x q v rv => h r F1 H1 v e x q rv
/-- data that is there already, or flat -/
theorem PostE.val {d : D} (h : PostE K Z W (.ok (.val d)) F H σ Q) (s : Ok K F H) {v : V} (q : Rep K F d v) : Q v H := h F H rfl (Ext.refl s) v q
theorem PostE.tup {ds : List D} (h : PostE K Z W (.ok (.val (.tup ds))) F H σ Q) (s : Ok K F H) {vs : List V} (q : Reps K F ds vs) (p : Addr) (n : H p = none) : Q (.ref p) (upd H p (.tup vs)) := by
  have hf := s.free n
  refine h (F.add p (.tup vs)) _ rfl (Ext.tup s n vs) _ ?_
  show Rep K _ _ _
  unfold Rep
  exact ⟨p, vs, rfl, SqT.of (show upd F.h p (.tup vs) p = _ from upd_same), Reps.mono (Le.add hf.1) _ _ q⟩
theorem PostE.own {ds : List D} (h : PostE K Z W (.ok (.own ds)) F H σ Q) (s : Ok K F H) {vs : List V} (q : Reps K F ds vs) (p : Addr) (n : H p = none) : Q (.ref p) (upd H p (.lst vs)) :=
  h F _ rfl (Ext.new1 s n _) _ ⟨p, vs, rfl, upd_same, s.free n, n, q⟩
theorem View.int {i : Int} {v : V} (h : View K F H (.int i) v) : v = .int i := by
  have h' : Rep K F (.int i) v := h
  unfold Rep at h'; exact h'
theorem View.bl {i : Bool} {v : V} (h : View K F H (.bl i) v) : v = .bl i := by
  have h' : Rep K F (.bl i) v := h
  unfold Rep at h'; exact h'
theorem View.str {i : Str} {v : V} (h : View K F H (.str i) v) : v = .str i := by
  have h' : Rep K F (.str i) v := h
  unfold Rep at h'; exact h'
theorem View.non {v : V} (h : View K F H .non v) : v = .non := by
  have h' : Rep K F .non v := h
  unfold Rep at h'; exact h'
theorem View.lst {xs : List D} {v : V} (h : View K F H (.lst xs) v) : ∃ a vs, v = .ref a ∧ H a = some (.lst vs) ∧ Reps K F xs vs := h
theorem View.scr {xs : List D} {v : V} (h : View K F H (.scr xs) v) (s : Ok K F H) : ∃ a vs, v = .ref a ∧ SqL K H a vs ∧ Reps K F xs vs := by
  have h' : Rep K F (.scr xs) v := h
  unfold Rep at h'
  obtain ⟨a, vs, e, q, r⟩ := h'
  exact ⟨a, vs, e, s.sub.seq q, r⟩
theorem repInt {i : Int} : Rep K F (.int i) (.int i) := by unfold Rep; rfl
theorem repBl {i : Bool} : Rep K F (.bl i) (.bl i) := by unfold Rep; rfl
theorem repStr {i : Str} : Rep K F (.str i) (.str i) := by unfold Rep; rfl
theorem repNon : Rep K F .non .non := by unfold Rep; rfl
theorem guardM_ok {α : Type} {c : Bool} {m : M α} {P : M α → Prop} (h : P (guardM c m)) (nb : ¬ P .bad) : c = true ∧ P m := by
  unfold guardM at h
  cases c with
  | true => exact ⟨rfl, by simpa using h⟩
  | false => exact absurd (by simpa using h) nb
end

/-! ### data as the library has them -/
mutual
def toPy : D → PyData
  | .non => .none
  | .bl b => .bool b
  | .int i => .int i
  | .str s => .str s
  | .tup xs => .tuple (toPys xs)
  | .lst xs => .list (toPys xs)
  | .scr xs => .list (toPys xs)
  | .obj _ => .none
def toPys : List D → List PyData
  | [] => []
  | x :: xs => toPy x :: toPys xs
end
mutual
/-- nothing of the store -/
def nob : D → Bool
  | .obj _ => false
  | .tup xs => nobs xs
  | .lst xs => nobs xs
  | .scr xs => nobs xs
  | _ => true
def nobs : List D → Bool
  | [] => true
  | x :: xs => nob x && nobs xs
end
theorem nobs_of : ∀ {xs : List D}, (∀ x ∈ xs, nob x = true) → nobs xs = true
  | [], _ => by unfold nobs; rfl
  | x :: xs, h => by unfold nobs; rw [h x List.mem_cons_self, nobs_of fun y hy => h y (List.mem_cons_of_mem _ hy)]; rfl
theorem wf_nob : ∀ (n : Nat) (d : D), wf n d = true → nob d = true := by
  intro n
  induction n with
  | zero => intro d h; cases d <;> first | (simp [wf] at h; done) | (unfold nob; rfl)
  | succ n ih =>
    intro d h
    cases d with
    | tup xs => unfold nob; exact nobs_of fun x hx => ih x (List.all_eq_true.mp (show xs.all (wf n) = true by simpa [wf] using h) x hx)
    | lst xs => unfold nob; exact nobs_of fun x hx => ih x (List.all_eq_true.mp (show xs.all (wf n) = true by simpa [wf] using h) x hx)
    | scr xs => simp [wf] at h
    | obj m => simp [wf] at h
    | _ => unfold nob; rfl
section
variable {K : PySem.W.Frag} {F : Fz} {H : Hp}
mutual
theorem Rep.dp (s : Ok K F H) : ∀ (d : D) (v : V), nob d = true → Rep K F d v → Dp K H v (toPy d)
  | .non, v, w, h => by unfold Rep at h; subst h; unfold toPy; exact .non
  | .bl b, v, w, h => by unfold Rep at h; subst h; unfold toPy; exact .bl b
  | .int b, v, w, h => by unfold Rep at h; subst h; unfold toPy; exact .int b
  | .str b, v, w, h => by unfold Rep at h; subst h; unfold toPy; exact .str b
  | .tup xs, v, w, h => by
    unfold Rep at h
    obtain ⟨a, vs, rfl, q, r⟩ := h
    unfold toPy
    exact .tup (Same.seqT s.sub q) (Reps.dp s xs vs (by simpa [nob] using w) r)
  | .lst xs, v, w, h => by
    unfold Rep at h
    obtain ⟨a, vs, rfl, q, r⟩ := h
    unfold toPy
    exact .lst (SqL.of (s.sub _ _ q)) (Reps.dp s xs vs (by simpa [nob] using w) r)
  | .scr xs, v, w, h => by
    unfold Rep at h
    obtain ⟨a, vs, rfl, q, r⟩ := h
    unfold toPy
    exact .lst (s.sub.seq q) (Reps.dp s xs vs (by simpa [nob] using w) r)
  | .obj n, v, w, h => by unfold nob at w; cases w
theorem Reps.dp (s : Ok K F H) : ∀ (ds : List D) (vs : List V), nobs ds = true → Reps K F ds vs → DpAll K H vs (toPys ds)
  | [], vs, w, h => by unfold Reps at h; subst h; unfold toPys; exact .nil
  | d :: ds, vs, w, h => by
    unfold Reps at h
    obtain ⟨v, r, rfl, a, b⟩ := h
    unfold toPys
    unfold nobs at w
    rw [Bool.and_eq_true] at w
    exact .cons (Rep.dp s d v w.1 a) (Reps.dp s ds r w.2 b)
end
theorem View.dp (s : Ok K F H) : ∀ {d : D} {v : V}, nob d = true → View K F H d v → Dp K H v (toPy d)
  | .non, _, w, h => Rep.dp s _ _ w h
  | .bl _, _, w, h => Rep.dp s _ _ w h
  | .int _, _, w, h => Rep.dp s _ _ w h
  | .str _, _, w, h => Rep.dp s _ _ w h
  | .tup _, _, w, h => Rep.dp s _ _ w h
  | .scr _, _, w, h => Rep.dp s _ _ w h
  | .obj _, _, w, h => Rep.dp s _ _ w h
  | .lst xs, v, w, ⟨a, vs, e, q, r⟩ => by
    subst e
    unfold toPy
    exact .lst (SqL.of q) (Reps.dp s xs vs (by simpa [nob] using w) r)
end
theorem toPys_map : ∀ xs : List D, toPys xs = xs.map toPy
  | [] => by unfold toPys; rfl
  | x :: xs => by unfold toPys; rw [toPys_map xs]; rfl
theorem wf_lay : ∀ (n : Nat) (d : D), wf n d = true → PyData.canLay0 (toPy d) = true ∧ PyData.depth (toPy d) ≤ n := by
  intro n
  induction n with
  | zero =>
    intro d h
    cases d with
    | non => exact ⟨by simp [toPy, PyData.canLay0], by simp [toPy, PyData.depth]⟩
    | bl b => exact ⟨by simp [toPy, PyData.canLay0], by simp [toPy, PyData.depth]⟩
    | int b => exact ⟨by simp [toPy, PyData.canLay0], by simp [toPy, PyData.depth]⟩
    | str b =>
      refine ⟨?_, by simp [toPy, PyData.depth]⟩
      simp only [toPy, PyData.canLay0]
      simpa [wf, strOk, PyData.strOk] using h
    | tup xs => simp [wf] at h
    | lst xs => simp [wf] at h
    | scr xs => simp [wf] at h
    | obj m => simp [wf] at h
  | succ n ih =>
    have all : ∀ xs : List D, xs.all (wf n) = true → PyData.canLayAll0 (toPys xs) = true ∧ PyData.depthAll (toPys xs) ≤ n := by
      intro xs
      induction xs with
      | nil => intro _; exact ⟨by simp [toPys, PyData.canLayAll0], by simp [toPys, PyData.depthAll]⟩
      | cons x xs ihx =>
        intro h
        rw [List.all_cons, Bool.and_eq_true] at h
        obtain ⟨h1, h2⟩ := h
        obtain ⟨a1, a2⟩ := ih x h1
        obtain ⟨b1, b2⟩ := ihx h2
        simp only [toPys, PyData.canLayAll0, PyData.depthAll]
        exact ⟨by rw [a1, b1]; rfl, by omega⟩
    intro d h
    cases d with
    | non => exact ⟨by simp [toPy, PyData.canLay0], by simp [toPy, PyData.depth]⟩
    | bl b => exact ⟨by simp [toPy, PyData.canLay0], by simp [toPy, PyData.depth]⟩
    | int b => exact ⟨by simp [toPy, PyData.canLay0], by simp [toPy, PyData.depth]⟩
    | str b =>
      refine ⟨?_, by simp [toPy, PyData.depth]⟩
      simp only [toPy, PyData.canLay0]
      simpa [wf, strOk, PyData.strOk] using h
    | tup xs =>
      obtain ⟨a, b⟩ := all xs (by simpa [wf] using h)
      simp only [toPy, PyData.canLay0, PyData.depth]
      exact ⟨a, by omega⟩
    | lst xs =>
      obtain ⟨a, b⟩ := all xs (by simpa [wf] using h)
      simp only [toPy, PyData.canLay0, PyData.depth]
      exact ⟨a, by omega⟩
    | scr xs => simp [wf] at h
    | obj m => simp [wf] at h
theorem wf_shaped {d : D} (h : wf 60 d = true) : SeqAt.shaped (toPy d) = true := by
  obtain ⟨a, b⟩ := wf_lay 60 d h
  unfold SeqAt.shaped
  rw [a, Bool.true_and]
  exact decide_eq_true (by omega)
theorem eqv_eqD : ∀ (n : Nat) (d e : D), wf n d = true → wf n e = true → PyData.eqv (toPy d) (toPy e) = eqD d e := by
  intro n
  induction n with
  | zero =>
    intro d e hd he
    cases d <;> cases e <;> first
      | (simp [wf] at hd; done)
      | (simp [wf] at he; done)
      | simp [toPy, PyData.eqv, eqD]
  | succ n ih =>
    have all : ∀ xs ys : List D, xs.all (wf n) = true → ys.all (wf n) = true → PyData.eqvAll (toPys xs) (toPys ys) = eqDs xs ys := by
      intro xs
      induction xs with
      | nil => intro ys _ _; cases ys <;> simp [toPys, PyData.eqvAll, eqDs]
      | cons x xs ihx =>
        intro ys h1 h2
        cases ys with
        | nil => simp [toPys, PyData.eqvAll, eqDs]
        | cons y ys =>
          rw [List.all_cons, Bool.and_eq_true] at h1 h2
          simp only [toPys, PyData.eqvAll, eqDs]
          rw [ih x y h1.1 h2.1, ihx ys h1.2 h2.2]
    intro d e hd he
    cases d <;> cases e <;> first
      | (simp [wf] at hd; done)
      | (simp [wf] at he; done)
      | (simp only [toPy, PyData.eqv, eqD]; exact all _ _ (by simpa [wf] using hd) (by simpa [wf] using he))
      | simp [toPy, PyData.eqv, eqD]
theorem any_eqv {n : Nat} {d : D} (hd : wf n d = true) : ∀ xs : List D, xs.all (wf n) = true → ((toPys xs).any fun z => PyData.eqv z (toPy d)) = xs.any fun z => eqD z d
  | [], _ => by simp [toPys]
  | x :: xs, h => by
    rw [List.all_cons, Bool.and_eq_true] at h
    rw [toPys, List.any_cons, List.any_cons, eqv_eqD n x d h.1 hd, any_eqv hd xs h.2]
theorem wf_up : ∀ (n : Nat) (d : D), wf n d = true → wf (n + 1) d = true := by
  intro n
  induction n with
  | zero => intro d h; cases d <;> first | (simp [wf] at h; done) | (simpa [wf] using h)
  | succ n ih =>
    intro d h
    cases d with
    | tup xs =>
      have h' : xs.all (wf n) = true := by simpa [wf] using h
      show xs.all (wf (n + 1)) = true
      exact List.all_eq_true.mpr fun x hx => ih x (List.all_eq_true.mp h' x hx)
    | lst xs =>
      have h' : xs.all (wf n) = true := by simpa [wf] using h
      show xs.all (wf (n + 1)) = true
      exact List.all_eq_true.mpr fun x hx => ih x (List.all_eq_true.mp h' x hx)
    | scr xs => simp [wf] at h
    | obj m => simp [wf] at h
    | non => rfl
    | bl b => rfl
    | int b => rfl
    | str b => simpa [wf] using h

/-! ### operators -/
/-- a tuple once is the tuple itself -/
theorem once_tup (l : Addr) (items : Array Value) (n : Nat) (dd : Option Addr) (sl : Array (Option Value)) (u : Tok) :
    Meets (Builtin.«tuple.__mul__» ⟨[.ref l, .int 1 u], []⟩) (fun _ R s => s.heap.get? l = some { cls := .type "tuple", dict := dd, data := .seq items n, slots := sl } ∧ R (.ok (.ret (.ref l))) s) :=
  .of_wp fun prog w A R s h => by
    obtain ⟨hp, g, d, tk, os⟩ := s
    obtain ⟨hl, h⟩ := h
    have f1 := AutoSeq1.idx_int
    wp_walk using wpAny_loadPart' hl
    exact ⟨_, rfl, h⟩
/-- a tuple no time is a new empty one -/
theorem never_tup (l : Addr) (items : Array Value) (n : Nat) (dd : Option Addr) (sl : Array (Option Value)) (u : Tok) (c1 : (items.isEmpty || (0 : Int) == 1) = false) :
    Meets (Builtin.«tuple.__mul__» ⟨[.ref l, .int 0 u], []⟩) (fun _ R s => s.heap.get? l = some { cls := .type "tuple", dict := dd, data := .seq items n, slots := sl } ∧ R (.ok (.ret (Value.ref s.heap.objs.size))) { s with heap := s.heap.push { cls := Value.type "tuple", data := Data.seq #[] }, toks := s.toks }) :=
  .of_wp fun prog w A R s h => by
    obtain ⟨hp, g, d, tk, os⟩ := s
    obtain ⟨hl, h⟩ := h
    have f1 := AutoSeq1.idx_int
    wp_walk using wpAny_loadPart' hl
    rw [c1, if_neg Bool.false_ne_true]
    simp only [Int.le_refl, decide_true, Bool.true_or, if_true]
    wp_walk using wpAny_loadPart' hl
    exact ⟨_, rfl, h⟩
section
variable {X : Cx}
/-- tuple * 1 -/
def rOnce (K : PySem.W.Frag) : R2 := fun x y H Q => ∃ l xs, x = .ref l ∧ y = .int 1 ∧ SqT K H l xs ∧ Q (.ref l) H
theorem op_once : OpR X (binaryOp .Mult) (rOnce X.K) := by
  intro pn s σ H x y v u Q I rx ry hh
  obtain ⟨l, xs, rfl, rfl, hT, q⟩ := hh
  cases rx
  obtain ⟨t, rfl⟩ := ry
  obtain ⟨its, rv, ⟨⟨ct, dd, dt, sl⟩, ho, hc, n, hd⟩, hz⟩ := I.tuple hT
  simp only at hc hd
  subst hc hd
  have tm := once_tup l its.toArray n dd sl t
  refine wpAny_binaryOp_repeat_ref (T := "tuple") (U := "int") (by decide) ⟨_, ho, rfl⟩ (fun z => typeIs_int z 1 t) noFill_tuple_mul F.fills_int_mul F.slot_int_rmul repeat_tuple F.slot_int_index.lookup ?_
  refine call_meets F.slot_int_rmul (typeIs_int s 1 t) F.entry_int_rmul (F.args_int_rmul_2 _ _) (int_rmul_tuple 1 t l its.toArray n dd sl) ⟨ho, rfl, ⟨_, ho, rfl⟩, ?_⟩
  refine call_meets F.slot_tuple_mul ⟨_, ho, rfl⟩ F.entry_tuple_mul (F.args_tuple_mul_2 _ _) tm ⟨ho, ?_⟩
  exact ⟨.ref l, H, I, rfl, q⟩
/-- text * number -/
theorem foldl_repS (a : List Nat) : ∀ (n : Nat) (acc : List Nat), ((List.replicate n a.toArray).foldl (· ++ ·) acc.toArray) = (acc ++ (List.replicate n a).flatten).toArray
  | 0, acc => by simp
  | n + 1, acc => by
    rw [List.replicate_succ, List.foldl_cons, List.append_toArray, foldl_repS a n, List.replicate_succ, List.flatten_cons, List.append_assoc]
def rRepS : R2 := fun x y H Q => ∃ (a : Str) (k : Int), x = .str a ∧ y = .int k ∧ a.length ≠ 0 ∧ 2 ≤ k ∧ k ≤ 1000 ∧ a.length ≤ 1000 ∧ Q (.str ⟨(List.replicate k.toNat a.cps.toList).flatten.toArray⟩) H
theorem op_repS : OpR X (binaryOp .Mult) rRepS := by
  intro pn s σ H x y v u Q I rx ry hh
  obtain ⟨a, k, rfl, rfl, hne, h2, h3, h4, q⟩ := hh
  obtain ⟨t, rfl⟩ := rx
  obtain ⟨t', rfl⟩ := ry
  have e : (List.replicate k.toNat a.cps).foldl (· ++ ·) #[] = (List.replicate k.toNat a.cps.toList).flatten.toArray := by
    have := foldl_repS a.cps.toList k.toNat []
    rw [List.nil_append, Array.toArray_toList] at this
    exact this
  have hm : a.length * k.toNat ≤ 1000 * 1000 := Nat.mul_le_mul h4 (by omega)
  refine P.mul_str (by
      have c1 : ¬ k < -(2 ^ 63 : Int) := by omega
      have c2 : ¬ k ≥ 2 ^ 63 := by omega
      rw [decide_eq_false c1, decide_eq_false c2]; rfl) (fun _ _ => ?_) (fun _ _ => ?_) ?_
  · have h5 : (1000 : Int) ≤ (2 ^ 63 - 1) / k := by
      rw [Int.le_ediv_iff_mul_le (by omega)]
      omega
    omega
  · unfold Builtin.Str.tooLong
    have : 1000 * 1000 ≤ sizeLine := by decide
    exact decide_eq_false (by omega)
  · rw [if_neg (by omega), if_neg (by
      rw [Bool.or_eq_true, beq_iff_eq, beq_iff_eq]; omega), e]
    refine ⟨?_, ⟨.str _, H, I.tok _, ⟨_, rfl⟩, q⟩⟩
    have hl : (List.replicate k.toNat a.cps.toList).flatten.length = a.length * k.toNat := by
      rw [List.length_flatten, List.map_replicate, List.sum_replicate_nat, Nat.mul_comm]; rfl
    show (List.replicate k.toNat a.cps.toList).flatten.toArray.size ≤ _
    rw [List.size_toArray, hl]
    exact Nat.le_trans hm (by decide)
/-- tuple * 0 -/
def rNever (K : PySem.W.Frag) : R2 := fun x y H Q => ∃ l xs, x = .ref l ∧ y = .int 0 ∧ SqT K H l xs ∧ xs ≠ [] ∧ ∀ p, H p = none → Q (.ref p) (upd H p (.tup []))
theorem op_never : OpR X (binaryOp .Mult) (rNever X.K) := by
  intro pn s σ H x y v u Q I rx ry hh
  obtain ⟨l, xs, rfl, rfl, hT, hne, q⟩ := hh
  cases rx
  obtain ⟨t, rfl⟩ := ry
  obtain ⟨its, rv, ⟨⟨ct, dd, dt, sl⟩, ho, hc, n, hd⟩, hz⟩ := I.tuple hT
  simp only at hc hd
  subst hc hd
  have c1 : (its.toArray.isEmpty || (0 : Int) == 1) = false := by
    have hle := rv.length
    cases its with
    | nil => exact absurd (List.eq_nil_of_length_eq_zero hle) hne
    | cons a b => rfl
  have tm := never_tup l its.toArray n dd sl t c1
  refine wpAny_binaryOp_repeat_ref (T := "tuple") (U := "int") (by decide) ⟨_, ho, rfl⟩ (fun z => typeIs_int z 0 t) noFill_tuple_mul F.fills_int_mul F.slot_int_rmul repeat_tuple F.slot_int_index.lookup ?_
  refine call_meets F.slot_int_rmul (typeIs_int s 0 t) F.entry_int_rmul (F.args_int_rmul_2 _ _) (int_rmul_tuple 0 t l its.toArray n dd sl) ⟨ho, rfl, ⟨_, ho, rfl⟩, ?_⟩
  refine call_meets F.slot_tuple_mul ⟨_, ho, rfl⟩ F.entry_tuple_mul (F.args_tuple_mul_2 _ _) tm ⟨ho, ?_⟩
  refine ⟨.ref s.heap.objs.size, _, I.laid (t' := s.toks) (o := .tup []) (fun b ob z => Heap.get?_push_of_some _ z) (Nat.le_refl _) ?_, rfl, q _ (I.hok.fresh (Nat.le_refl _))⟩
  exact ⟨Nat.zero_le _, [], .nil, IsTup.new _ _⟩
end
section
variable {X : Cx} {Z : Z0} {W : WX}
/-- the reading of an operator that works on what is seen -/
def rOp (K : PySem.W.Frag) (Z : Z0) (W : WX) (f : D → D → M R) : R2 := fun x y H Q => ∃ F σ d e, Ok K F H ∧ View K F H d x ∧ View K F H e y ∧ PostE K Z W (f d e) F H σ Q
theorem useR {f : Value → Value → Sem Value} {r : R2} (h : OpR X f r) {pins : List (Addr × Obj)} {s : Shared} {σ : L2.St} {H : Hp} {x y : V} {v u : Value} {Q : VK} (I : Inv X pins σ H s) (rx : RelV x v) (ry : RelV y u) (q : r x y H Q) :
    wpAny (model X.prog X.w) X.A (f v u) (EP X pins σ Q) X.xe s := h pins s σ H x y v u Q I rx ry q
theorem short_bits {i : Int} (h : i.natAbs < 9223372036854775808) : PySem.Builtin.Int.intBits i ≤ 64 := by
  unfold PySem.Builtin.Int.intBits
  split
  · omega
  · rename_i hz
    have h2 : i.natAbs < 2 ^ 63 := by simpa using h
    have h1 : i.natAbs.log2 < 63 := PySem.Flt.log2_lt_of (by omega) h2
    omega
theorem mulB_ok {i j : Int} (h : mulB i j = true) : IntMulOk i j := by
  unfold mulB at h
  rw [Bool.or_eq_true, Bool.or_eq_true] at h
  rcases h with (h | h) | h
  · exact CMulW.ok (show CMulW i j from (of_decide_eq_true h : i.natAbs.log2 + j.natAbs.log2 < 1000000))
  · exact IntMulOk.of_left (short_bits (of_decide_eq_true h))
  · exact IntMulOk.of_right (short_bits (of_decide_eq_true h))
theorem op_mulB {X : Cx} : OpR X (binaryOp .Mult) (rI (fun i j => mulB i j = true) fun i j => .int (i * j)) := opI fun _ _ _ _ _ _ _ hc q => mul_int q (mulB_ok hc)
theorem op_opD (o : Operator) : OpR X (binaryOp o) (rOp X.K Z W (opD o)) := by
  intro pins s σ H x y v u Q I rx ry h
  obtain ⟨F, σ', d, e, sf, hx, hy, p⟩ := h
  unfold opD at p
  split at p
  · cases hx.int; cases hy.int
    exact useR op_add I rx ry ⟨_, _, rfl, rfl, p.val sf repInt⟩
  · rename_i i b
    cases hx.int; cases hy.bl
    refine useR op_add_ib I rx ry ⟨_, _, rfl, rfl, p.val sf ?_⟩
    unfold Rep
    cases b <;> rfl
  · cases hx.str; cases hy.str
    obtain ⟨c, p⟩ := guardM_ok (P := fun m => PostE X.K Z W m F H σ' Q) p (fun z => z)
    exact useR op_add_str I rx ry ⟨_, _, rfl, rfl, by rw [← line_eq]; exact of_decide_eq_true c, p.val sf repStr⟩
  · obtain ⟨a, us, rfl, ha, ra⟩ := hx.lst
    obtain ⟨b, ws, rfl, hb, rb⟩ := hy.lst
    obtain ⟨c, p⟩ := guardM_ok (P := fun m => PostE X.K Z W m F H σ' Q) p (fun z => z)
    exact useR op_cat I rx ry ⟨a, b, us, ws, rfl, rfl, ha, hb, by rw [← ra.length, ← rb.length, ← line_eq]; exact of_decide_eq_true c, fun q nq => p.own sf (Reps.append ra rb) q nq⟩
  · rename_i xs ys
    obtain ⟨a, us, rfl, ha, ra⟩ := hx.tup sf
    obtain ⟨b, ws, rfl, hb, rb⟩ := hy.tup sf
    obtain ⟨c, p⟩ := guardM_ok (P := fun m => PostE X.K Z W m F H σ' Q) p (fun z => z)
    have la := ra.length
    have lb := rb.length
    refine useR op_catA I rx ry ⟨a, b, us, ws, rfl, rfl, ha, hb, by rw [← la, ← lb, ← line_eq]; exact of_decide_eq_true c, fun z => ?_, fun z1 z => ?_, fun z1 z2 q nq => p.tup sf (Reps.append ra rb) q nq⟩
    · have : xs = [] := List.length_eq_zero_iff.mp (by rw [la, z]; rfl)
      subst this
      exact p.val sf hy
    · have : ys = [] := List.length_eq_zero_iff.mp (by rw [lb, z]; rfl)
      subst this
      rw [List.append_nil] at p
      exact p.val sf hx
  · cases hx.int; cases hy.int
    exact useR op_sub I rx ry ⟨_, _, rfl, rfl, p.val sf repInt⟩
  · cases hx.int; cases hy.int
    obtain ⟨c, p⟩ := guardM_ok (P := fun m => PostE X.K Z W m F H σ' Q) p (fun z => z)
    exact useR op_mulB I rx ry ⟨_, _, rfl, rfl, c, p.val sf repInt⟩
  · obtain ⟨a, us, rfl, ha, ra⟩ := hx.lst
    cases hy.int
    obtain ⟨c, p⟩ := guardM_ok (P := fun m => PostE X.K Z W m F H σ' Q) p (fun z => z)
    simp only [Bool.and_eq_true, decide_eq_true_eq] at c
    obtain ⟨⟨c1, c2⟩, c3⟩ := c
    exact useR op_rep I rx ry ⟨a, _, us, rfl, rfl, ha, by omega, by omega, by rw [← ra.length, ← line_eq]; exact c3, fun q nq => p.own sf (Reps.rep ra _) q nq⟩
  · cases hx.str; cases hy.int
    obtain ⟨c, p⟩ := guardM_ok (P := fun m => PostE X.K Z W m F H σ' Q) p (fun z => z)
    simp only [Bool.and_eq_true, decide_eq_true_eq] at c
    exact useR op_repS I rx ry ⟨_, _, rfl, rfl, c.2, c.1.1.1, c.1.1.2, c.1.2, p.val sf repStr⟩
  · rename_i xs k
    obtain ⟨a, us, rfl, ha, ra⟩ := hx.tup sf
    cases hy.int
    obtain ⟨c, p⟩ := guardM_ok (P := fun m => PostE X.K Z W m F H σ' Q) p (fun z => z)
    simp only [Bool.and_eq_true, decide_eq_true_eq] at c
    obtain ⟨⟨⟨c1, c2⟩, c3⟩, c4⟩ := c
    have la := ra.length
    have hne : us ≠ [] := fun e => by rw [e] at la; exact absurd la (by simpa using c4)
    by_cases k0 : k = 0
    · subst k0
      exact useR op_never I rx ry ⟨a, us, rfl, rfl, ha, hne, fun q nq => p.tup sf Reps.nil q nq⟩
    · by_cases k1 : k = 1
      · subst k1
        refine useR op_once I rx ry ⟨a, us, rfl, rfl, ha, ?_⟩
        have e : (List.replicate (1 : Int).toNat xs).flatten = xs := by simp
        rw [e] at p
        exact p.val sf hx
      · exact useR op_repT I rx ry ⟨a, _, us, rfl, rfl, ha, hne, by omega, by omega, by omega, fun q nq => p.tup sf (Reps.rep ra _) q nq⟩
  · cases hx.int; cases hy.int
    obtain ⟨c, p⟩ := guardM_ok (P := fun m => PostE X.K Z W m F H σ' Q) p (fun z => z)
    simp only [Bool.and_eq_true, decide_eq_true_eq] at c
    exact useR op_fdivW I rx ry ⟨_, _, rfl, rfl, c, p.val sf repInt⟩
  · cases hx.int; cases hy.int
    obtain ⟨c, p⟩ := guardM_ok (P := fun m => PostE X.K Z W m F H σ' Q) p (fun z => z)
    exact useR op_mod I rx ry ⟨_, _, rfl, rfl, of_decide_eq_true c, p.val sf repInt⟩
  · cases hx.int; cases hy.int
    obtain ⟨c, p⟩ := guardM_ok (P := fun m => PostE X.K Z W m F H σ' Q) p (fun z => z)
    simp only [Bool.and_eq_true, decide_eq_true_eq] at c
    exact useR op_pow I rx ry ⟨_, _, rfl, rfl, ⟨c.1.1, c.1.2, c.2⟩, p.val sf repInt⟩
  · exact (show False from p).elim
theorem deepM_ok {K : PySem.W.Frag} {d e : D} {b : Bool} {F : Fz} {H : Hp} {σ' : L2.St} {Q : VK} (sf : Ok K F H) (p : PostE K Z W (deepM d e b) F H σ' Q) : wf 60 d = true ∧ wf 60 e = true ∧ Q (.bl b) H := by
  obtain ⟨c, p⟩ := guardM_ok (P := fun m => PostE K Z W m F H σ' Q) p (fun z => z)
  simp only [Bool.and_eq_true] at c
  exact ⟨c.1, c.2, p.val sf repBl⟩
theorem isN_iff {K : PySem.W.Frag} {F : Fz} {H : Hp} : ∀ {d : D} {x : V}, View K F H d x → (match d with | .non => true | _ => false) = decide (x = .non)
  | .non, x, h => by cases h.non; rfl
  | .bl b, x, h => by cases h.bl; rfl
  | .int b, x, h => by cases h.int; rfl
  | .str b, x, h => by cases h.str; rfl
  | .tup b, x, h => by
    have h' : Rep K F (.tup b) x := h
    unfold Rep at h'
    obtain ⟨a, vs, rfl, _⟩ := h'
    rfl
  | .scr b, x, h => by
    have h' : Rep K F (.scr b) x := h
    unfold Rep at h'
    obtain ⟨a, vs, rfl, _⟩ := h'
    rfl
  | .lst b, x, h => by
    obtain ⟨a, vs, rfl, _⟩ := h.lst
    rfl
  | .obj b, x, h => by
    have h' : Rep K F (.obj b) x := h
    unfold Rep at h'
    obtain ⟨a, rfl, _⟩ := h'
    rfl
theorem op_cmpD (hu : X.A.units + 65 < cLine) (o : CmpOp) : OpR X (compareOp o) (rOp X.K Z W (cmpD o)) := by
  intro pins s σ H x y v u Q I rx ry h
  obtain ⟨F, σ', d, e, sf, hx, hy, p⟩ := h
  have room : ∀ {da db : PyData}, SeqAt.shaped db = true → X.A.units + 1 + min da.depth db.depth < cLine := fun {da db} h => by
    have h1 := SeqAt.depth_of_shaped h
    have h2 : min da.depth db.depth ≤ db.depth := Nat.min_le_right _ _
    omega
  unfold cmpD at p
  split at p
  · obtain ⟨w1, w2, q⟩ := deepM_ok sf p
    refine useR (op_eqD (X := X) (by omega)) I rx ry ⟨_, _, hx.dp sf (wf_nob _ _ w1), hy.dp sf (wf_nob _ _ w2), wf_shaped w1, wf_shaped w2, ?_⟩
    rw [eqv_eqD 60 _ _ w1 w2]; exact q
  · obtain ⟨w1, w2, q⟩ := deepM_ok sf p
    refine useR (op_neD (X := X) (by omega)) I rx ry ⟨_, _, hx.dp sf (wf_nob _ _ w1), hy.dp sf (wf_nob _ _ w2), wf_shaped w1, wf_shaped w2, ?_⟩
    rw [eqv_eqD 60 _ _ w1 w2]; exact q
  · cases hx.int; cases hy.int
    exact useR op_lt I rx ry ⟨_, _, rfl, rfl, p.val sf repBl⟩
  · cases hx.int; cases hy.int
    exact useR op_le I rx ry ⟨_, _, rfl, rfl, p.val sf repBl⟩
  · cases hx.int; cases hy.int
    exact useR op_gt I rx ry ⟨_, _, rfl, rfl, p.val sf repBl⟩
  · cases hx.int; cases hy.int
    exact useR op_ge I rx ry ⟨_, _, rfl, rfl, p.val sf repBl⟩
  · cases hx.bl; cases hy.bl
    exact useR op_isBl I rx ry ⟨_, _, rfl, rfl, p.val sf repBl⟩
  · cases hy.non
    refine useR op_isN I rx ry ⟨rfl, ?_⟩
    rw [← isN_iff hx]
    exact p.val sf repBl
  · cases hx.bl; cases hy.bl
    exact useR op_notBl I rx ry ⟨_, _, rfl, rfl, p.val sf repBl⟩
  · cases hy.non
    refine useR op_notN I rx ry ⟨rfl, ?_⟩
    rw [← isN_iff hx]
    have e : ∀ d : D, (!(match d with | .non => true | _ => false)) = (match d with | .non => false | _ => true) := fun d => by cases d <;> rfl
    rw [e]
    exact p.val sf repBl
  · cases hx.str; cases hy.str
    exact useR op_inS I rx ry ⟨_, _, rfl, rfl, p.val sf repBl⟩
  · cases hx.str; cases hy.str
    exact useR op_notInS I rx ry ⟨_, _, rfl, rfl, p.val sf repBl⟩
  · rename_i xs
    obtain ⟨w1, w2, q⟩ := deepM_ok sf p
    have w3 : xs.all (wf 60) = true := List.all_eq_true.mpr fun z hz => wf_up 59 z (List.all_eq_true.mp (show xs.all (wf 59) = true from w2) z hz)
    refine useR (op_inD hu) I rx ry ⟨_, toPys xs, hx.dp sf (wf_nob _ _ w1), by simpa [toPy] using hy.dp sf (wf_nob _ _ w2), wf_shaped w1, by simpa [toPy] using wf_shaped w2, ?_⟩
    rw [any_eqv w1 xs w3]; exact q
  · rename_i xs
    obtain ⟨w1, w2, q⟩ := deepM_ok sf p
    have w3 : xs.all (wf 60) = true := List.all_eq_true.mpr fun z hz => wf_up 59 z (List.all_eq_true.mp (show xs.all (wf 59) = true from w2) z hz)
    refine useR (op_notInD hu) I rx ry ⟨_, toPys xs, hx.dp sf (wf_nob _ _ w1), by simpa [toPy] using hy.dp sf (wf_nob _ _ w2), wf_shaped w1, by simpa [toPy] using wf_shaped w2, ?_⟩
    rw [any_eqv w1 xs w3]; exact q
  · rename_i xs
    obtain ⟨w1, w2, q⟩ := deepM_ok sf p
    have w3 : xs.all (wf 60) = true := List.all_eq_true.mpr fun z hz => wf_up 59 z (List.all_eq_true.mp (show xs.all (wf 59) = true from w2) z hz)
    obtain ⟨as, r1⟩ := Dp.reads I _ x v (hx.dp sf (wf_nob _ _ w1)) rx
    obtain ⟨bs, r2⟩ := Dp.reads I _ y u (hy.dp sf (wf_nob _ _ w2)) ry
    have sh : SeqAt.shaped (.tuple (toPys xs)) = true := by simpa [toPy] using wf_shaped w2
    refine SeqAt.in_tuple_reads (xs := toPys xs) (by simpa [toPy] using r2) r1 (SeqAt.canLay_of_shaped sh) (SeqAt.canLay_of_shaped (wf_shaped w1)) (room_in_shaped (wf_shaped w1) hu) ⟨.bl _, H, I, rfl, ?_⟩
    rw [any_eqv w1 xs w3]; exact q
  · rename_i xs
    obtain ⟨w1, w2, q⟩ := deepM_ok sf p
    have w3 : xs.all (wf 60) = true := List.all_eq_true.mpr fun z hz => wf_up 59 z (List.all_eq_true.mp (show xs.all (wf 59) = true from w2) z hz)
    obtain ⟨as, r1⟩ := Dp.reads I _ x v (hx.dp sf (wf_nob _ _ w1)) rx
    obtain ⟨bs, r2⟩ := Dp.reads I _ y u (hy.dp sf (wf_nob _ _ w2)) ry
    have sh : SeqAt.shaped (.tuple (toPys xs)) = true := by simpa [toPy] using wf_shaped w2
    refine SeqAt.notIn_tuple_reads (xs := toPys xs) (by simpa [toPy] using r2) r1 (SeqAt.canLay_of_shaped sh) (SeqAt.canLay_of_shaped (wf_shaped w1)) (room_in_shaped (wf_shaped w1) hu) ⟨.bl _, H, I, rfl, ?_⟩
    rw [any_eqv w1 xs w3]; exact q
  · exact (show False from p).elim
end
end EV

set_option Elab.async false
set_option linter.all false
set_option autoImplicit false
set_option maxRecDepth 100000
set_option maxHeartbeats 4000000
/-! EwB3: built-in functions, items, slices; targets; what is asked of the syntax. -/
namespace EV
open PySem PySem.Spec PyProof.Rows L2

theorem sIx_eq (n d : Nat) (o : Option Int) : sIx n d o = HT.sIx n d o := by
  cases o <;> rfl
theorem ixN_eq (n : Nat) (i : Int) : ixN n i = L2.ixN n i := rfl
theorem Reps.cut {K : PySem.W.Frag} {F : Fz} {ds : List D} {vs : List V} (h : Reps K F ds vs) (lo hi : Option Int) : Reps K F (cut ds lo hi) (cutV vs lo hi) := by
  unfold EV.cut cutV
  rw [sIx_eq, sIx_eq, h.length]
  exact Reps.take _ (Reps.drop _ h)
theorem Reps.atI {K : PySem.W.Frag} {F : Fz} {ds : List D} {vs : List V} {i : Int} {d : D} (h : Reps K F ds vs) (e : EV.atI ds i = some d) : ∃ v, L2.atI vs i = some v ∧ Rep K F d v := by
  unfold EV.atI at e
  unfold L2.atI
  rw [h.length, ixN_eq] at e
  cases q : L2.ixN vs.length i with
  | none => rw [q] at e; cases e
  | some j =>
    rw [q] at e
    obtain ⟨v, h1, h2⟩ := h.get (show ds[j]? = some d from e)
    exact ⟨v, h1, h2⟩
theorem M.ofO_ok {α β : Type} {o : Option α} {f : α → M β} {P : M β → Prop} (h : P ((M.ofO o).bind f)) (nb : ¬ P .bad) : ∃ a, o = some a ∧ P (f a) := by
  cases o with
  | none => exact absurd h nb
  | some a => exact ⟨a, rfl, h⟩

section
variable {X : Cx} {Z : Z0} {W : WX}
theorem ix_D : IxR X (rOp X.K Z W ixD) := by
  intro value slice pins s σ H x y v u Q I rx ry h hs
  obtain ⟨F, σ', d, e, sf, hx, hy, p⟩ := h
  unfold ixD at p
  split at p
  · obtain ⟨a, us, rfl, ha, ra⟩ := hx.lst
    cases hy.int
    obtain ⟨z, ez, p⟩ := M.ofO_ok (P := fun m => PostE X.K Z W m F H σ' Q) p (fun z => z)
    obtain ⟨w, h1, h2⟩ := ra.atI ez
    exact ix_list value slice pins s σ H _ _ v u Q I rx ry ⟨a, us, _, w, rfl, rfl, SqL.of ha, h1, p.val sf h2⟩ hs
  · obtain ⟨a, us, rfl, ha, ra⟩ := hx.scr sf
    cases hy.int
    obtain ⟨z, ez, p⟩ := M.ofO_ok (P := fun m => PostE X.K Z W m F H σ' Q) p (fun z => z)
    obtain ⟨w, h1, h2⟩ := ra.atI ez
    exact ix_list value slice pins s σ H _ _ v u Q I rx ry ⟨a, us, _, w, rfl, rfl, ha, h1, p.val sf h2⟩ hs
  · obtain ⟨a, us, rfl, ha, ra⟩ := hx.tup sf
    cases hy.int
    obtain ⟨z, ez, p⟩ := M.ofO_ok (P := fun m => PostE X.K Z W m F H σ' Q) p (fun z => z)
    obtain ⟨w, h1, h2⟩ := ra.atI ez
    exact ix_tup value slice pins s σ H _ _ v u Q I rx ry ⟨a, us, _, w, rfl, rfl, ha, h1, p.val sf h2⟩ hs
  · cases hx.str; cases hy.int
    obtain ⟨c, p⟩ := guardM_ok (P := fun m => PostE X.K Z W m F H σ' Q) p (fun z => z)
    obtain ⟨z, ez, p⟩ := M.ofO_ok (P := fun m => PostE X.K Z W m F H σ' Q) p (fun z => z)
    exact ix_str value slice pins s σ H _ _ v u Q I rx ry ⟨_, _, z, rfl, rfl, by rw [← line_eq]; exact of_decide_eq_true c, ez, p.val sf repStr⟩ hs
  · exact (show False from p).elim
def rSl (K : PySem.W.Frag) (Z : Z0) (W : WX) : V → Option Int → Option Int → Hp → VK → Prop := fun x lo hi H Q => ∃ F σ d, Ok K F H ∧ View K F H d x ∧ PostE K Z W (slD d lo hi) F H σ Q
theorem sl_D : SlR X (rSl X.K Z W) := by
  intro pins s σ H x v vl vu lo hi sl Q I rx hs pl pu h
  obtain ⟨F, σ', d, sf, hx, p⟩ := h
  unfold slD at p
  split at p
  · obtain ⟨a, us, rfl, ha, ra⟩ := hx.lst
    exact sl_list pins s σ H _ v vl vu _ _ sl Q I rx hs pl pu ⟨a, us, rfl, SqL.of ha, fun q nq => p.own sf (ra.cut _ _) q nq⟩
  · obtain ⟨a, us, rfl, ha, ra⟩ := hx.scr sf
    exact sl_list pins s σ H _ v vl vu _ _ sl Q I rx hs pl pu ⟨a, us, rfl, ha, fun q nq => p.own sf (ra.cut _ _) q nq⟩
  · rename_i xs
    obtain ⟨a, us, rfl, ha, ra⟩ := hx.tup sf
    refine sl_tupA pins s σ H _ v vl vu _ _ sl Q I rx hs pl pu ⟨a, us, rfl, ha, fun z => ?_, fun _ q nq => p.tup sf (ra.cut _ _) q nq⟩
    have e : EV.cut xs lo hi = xs := by
      unfold EV.cut
      rw [sIx_eq, sIx_eq, ra.length, z.1, z.2]
      simp [← ra.length]
    rw [e] at p
    exact p.val sf hx
  · cases hx.str
    obtain ⟨c, p⟩ := guardM_ok (P := fun m => PostE X.K Z W m F H σ' Q) p (fun z => z)
    exact sl_str pins s σ H _ v vl vu _ _ sl Q I rx hs pl pu ⟨_, rfl, by rw [← line_eq]; exact of_decide_eq_true c, p.val sf (by unfold Rep cutS EV.cut; rw [sIx_eq, sIx_eq]; simp [Str.length])⟩
  · exact (show False from p).elim

/-! ### built-in functions -/
def bval : B → Value
  | .len => .builtin "len" | .abs => .builtin "abs" | .int => .type "int" | .max2 => .builtin "max" | .min2 => .builtin "min" | .sum => .builtin "sum"
  | .all => .builtin "all" | .any => .builtin "any" | .tuple => .type "tuple" | .list => .type "list" | .str => .type "str" | .srt => .builtin "sorted" | .minl => .builtin "min" | .maxl => .builtin "max"
def bname : B → Str
  | .len => "len" | .abs => "abs" | .int => "int" | .max2 => "max" | .min2 => "min" | .sum => "sum"
  | .all => "all" | .any => "any" | .tuple => "tuple" | .list => "list" | .str => "str" | .srt => "sorted" | .minl => "min" | .maxl => "max"
theorem bboot (f : B) : bootBuiltins (bname f) = some (bval f) := by
  cases f <;> decide +kernel
/-- the reading of a call of a built-in function -/
def rB (K : PySem.W.Frag) (Z : Z0) (W : WX) (f : B) : List V → Hp → VK → Prop := fun vs H Q => ∃ F σ ds, Ok K F H ∧ Paired (View K F H) ds vs ∧ PostE K Z W (bltD f ds) F H σ Q
theorem boolsOf_map {K : PySem.W.Frag} {F : Fz} : ∀ {xs : List D} {vs : List V} {bs : List Bool}, Reps K F xs vs → boolsOf xs = some bs → vs = bs.map V.bl
  | [], vs, bs, h, e => by unfold Reps at h; subst h; cases e; rfl
  | x :: xs, vs, bs, h, e => by
    unfold Reps at h
    obtain ⟨v, r, rfl, a, b⟩ := h
    cases x with
    | bl q =>
      unfold boolsOf at e
      cases z : boolsOf xs with
      | none => rw [z] at e; cases e
      | some ws =>
        rw [z] at e; cases e
        unfold Rep at a; subst a
        rw [boolsOf_map b z]; rfl
    | _ => unfold boolsOf at e; cases e
theorem intsOf_map {K : PySem.W.Frag} {F : Fz} : ∀ {xs : List D} {vs : List V} {bs : List Int}, Reps K F xs vs → intsOf xs = some bs → vs = bs.map V.int
  | [], vs, bs, h, e => by unfold Reps at h; subst h; cases e; rfl
  | x :: xs, vs, bs, h, e => by
    unfold Reps at h
    obtain ⟨v, r, rfl, a, b⟩ := h
    cases x with
    | int q =>
      unfold intsOf at e
      cases z : intsOf xs with
      | none => rw [z] at e; cases e
      | some ws =>
        rw [z] at e; cases e
        unfold Rep at a; subst a
        rw [intsOf_map b z]; rfl
    | _ => unfold intsOf at e; cases e
theorem pair1 {α β : Type} {R : α → β → Prop} {x : α} {vs : List β} (h : Paired R [x] vs) : ∃ v, vs = [v] ∧ R x v := by
  cases h with
  | cons r t => cases t; exact ⟨_, rfl, r⟩
theorem pair2 {α β : Type} {R : α → β → Prop} {x y : α} {vs : List β} (h : Paired R [x, y] vs) : ∃ v w, vs = [v, w] ∧ R x v ∧ R y w := by
  cases h with
  | cons r t =>
    cases t with
    | cons r2 t2 => cases t2; exact ⟨_, _, rfl, r, r2⟩
theorem useC {f : Value} {r : List V → Hp → VK → Prop} (h : CallR X f r) {pins : List (Addr × Obj)} {s : Shared} {σ : L2.St} {H : Hp} {xs : List V} {us : List Value} {Q : VK} (I : Inv X pins σ H s) (rx : Vals xs us) (q : r xs H Q) :
    wpAny (model X.prog X.w) X.A (call f us) (EP X pins σ Q) X.xe s := h pins s σ H xs us Q I rx q
theorem sortI_perm (ns : List Int) : (sortI ns).Perm ns := List.mergeSort_perm _ _
theorem sortI_sorted (ns : List Int) : (sortI ns).Pairwise (· ≤ ·) := by
  have h := List.pairwise_mergeSort (le := fun a b : Int => decide (a ≤ b)) (fun a b c => by simp; omega) (fun a b => by simp; omega) ns
  exact h.imp fun q => by simpa using q
theorem sortI_uniq {ns ns' : List Int} (hp : ns'.Perm ns) (hs : ns'.Pairwise (· ≤ ·)) : ns' = sortI ns :=
  List.Perm.eq_of_pairwise (fun a b _ _ h1 h2 => Int.le_antisymm h1 h2) hs (sortI_sorted ns) (hp.trans (sortI_perm ns).symm)
theorem min_uniq {ns : List Int} {n m : Int} (h : ns.min? = some n) (hm : m ∈ ns) (hle : ∀ y, y ∈ ns → m ≤ y) : m = n := by
  have q := List.min?_eq_some_iff.mp h
  have a := q.2 m hm
  have b := hle n q.1
  omega
theorem max_uniq {ns : List Int} {n m : Int} (h : ns.max? = some n) (hm : m ∈ ns) (hle : ∀ y, y ∈ ns → y ≤ m) : m = n := by
  have q := List.max?_eq_some_iff.mp h
  have a := q.2 m hm
  have b := hle n q.1
  omega
theorem reps_ofInts {K : PySem.W.Frag} {F : Fz} : ∀ ns : List Int, Reps K F (ns.map D.int) (ns.map V.int)
  | [] => Reps.nil
  | n :: ns => Reps.cons repInt (reps_ofInts ns)
/-- built-in functions that want that no exception is handled -/
def calmB : B → Bool
  | .int | .len | .abs => false
  | _ => true
theorem call_D (f : B) (hc : calmB f = true → X.calm = true) : CallR X (bval f) (rB X.K Z W f) := by
  intro pins s σ H vs us Q I r h
  obtain ⟨F, σ', ds, sf, hv, p⟩ := h
  unfold bltD at p
  split at p
  · obtain ⟨v, rfl, h1⟩ := pair1 hv
    obtain ⟨a, ws, rfl, ha, ra⟩ := h1.lst
    exact useC call_len_seq I r ⟨a, ws, rfl, .inl (SqL.of ha), p.val sf (by rw [ra.length]; exact repInt)⟩
  · obtain ⟨v, rfl, h1⟩ := pair1 hv
    obtain ⟨a, ws, rfl, ha, ra⟩ := h1.scr sf
    exact useC call_len_seq I r ⟨a, ws, rfl, .inl ha, p.val sf (by rw [ra.length]; exact repInt)⟩
  · obtain ⟨v, rfl, h1⟩ := pair1 hv
    obtain ⟨a, ws, rfl, ha, ra⟩ := h1.tup sf
    exact useC call_len_seq I r ⟨a, ws, rfl, .inr ha, p.val sf (by rw [ra.length]; exact repInt)⟩
  · obtain ⟨v, rfl, h1⟩ := pair1 hv
    cases h1.str
    obtain ⟨c, p⟩ := guardM_ok (P := fun m => PostE X.K Z W m F H σ' Q) p (fun z => z)
    exact useC call_len_str I r ⟨_, rfl, by rw [← line_eq]; exact of_decide_eq_true c, p.val sf repInt⟩
  · obtain ⟨v, rfl, h1⟩ := pair1 hv
    cases h1.int
    exact useC call_abs I r ⟨_, rfl, p.val sf repInt⟩
  · obtain ⟨v, rfl, h1⟩ := pair1 hv
    cases h1.int
    exact useC call_int1 I r (.inl ⟨_, rfl, p.val sf repInt⟩)
  · obtain ⟨v, rfl, h1⟩ := pair1 hv
    cases h1.bl
    exact useC call_int1 I r (.inr ⟨_, rfl, p.val sf repInt⟩)
  · obtain ⟨v, w, rfl, h1, h2⟩ := pair2 hv
    cases h1.int; cases h2.int
    exact useC (call_max2 (hc rfl)) I r ⟨_, _, rfl, p.val sf repInt⟩
  · obtain ⟨v, w, rfl, h1, h2⟩ := pair2 hv
    cases h1.int; cases h2.int
    exact useC (call_min2 (hc rfl)) I r ⟨_, _, rfl, p.val sf repInt⟩
  · obtain ⟨v, rfl, h1⟩ := pair1 hv
    obtain ⟨a, ws, rfl, ha, ra⟩ := h1.lst
    obtain ⟨ns, en, p⟩ := M.ofO_ok (P := fun m => PostE X.K Z W m F H σ' Q) p (fun z => z)
    have e := intsOf_map ra en
    subst e
    exact useC (cr_sum (hc rfl)) I r ⟨a, ns, rfl, SqL.of ha, p.val sf repInt⟩
  · obtain ⟨v, rfl, h1⟩ := pair1 hv
    obtain ⟨a, ws, rfl, ha, ra⟩ := h1.lst
    obtain ⟨ns, en, p⟩ := M.ofO_ok (P := fun m => PostE X.K Z W m F H σ' Q) p (fun z => z)
    have e := boolsOf_map ra en
    subst e
    exact useC (cr_all (hc rfl)) I r ⟨a, ns, rfl, SqL.of ha, p.val sf repBl⟩
  · obtain ⟨v, rfl, h1⟩ := pair1 hv
    obtain ⟨a, ws, rfl, ha, ra⟩ := h1.lst
    obtain ⟨ns, en, p⟩ := M.ofO_ok (P := fun m => PostE X.K Z W m F H σ' Q) p (fun z => z)
    have e := boolsOf_map ra en
    subst e
    exact useC (cr_any (hc rfl)) I r ⟨a, ns, rfl, SqL.of ha, p.val sf repBl⟩
  · obtain ⟨v, rfl, h1⟩ := pair1 hv
    obtain ⟨a, ws, rfl, ha, ra⟩ := h1.lst
    exact useC call_tuple_of I r ⟨a, ws, rfl, .inl ⟨SqL.of ha, fun q nq => p.tup sf ra q nq⟩⟩
  · obtain ⟨v, rfl, h1⟩ := pair1 hv
    have h0 := h1
    obtain ⟨a, ws, rfl, ha, ra⟩ := h1.tup sf
    exact useC call_tuple_of I r ⟨a, ws, rfl, .inr ⟨ha, p.val sf h0⟩⟩
  · obtain ⟨v, rfl, h1⟩ := pair1 hv
    obtain ⟨a, ws, rfl, ha, ra⟩ := h1.lst
    exact useC call_list_of I r ⟨a, ws, rfl, .inl (SqL.of ha), fun q nq => p.own sf ra q nq⟩
  · obtain ⟨v, rfl, h1⟩ := pair1 hv
    obtain ⟨a, ws, rfl, ha, ra⟩ := h1.tup sf
    exact useC call_list_of I r ⟨a, ws, rfl, .inr ha, fun q nq => p.own sf ra q nq⟩
  · obtain ⟨v, rfl, h1⟩ := pair1 hv
    cases h1.int
    obtain ⟨c, p⟩ := guardM_ok (P := fun m => PostE X.K Z W m F H σ' Q) p (fun z => z)
    exact useC call_str_int I r ⟨_, rfl, of_decide_eq_true c, p.val sf repStr⟩
  · obtain ⟨v, rfl, h1⟩ := pair1 hv
    cases h1.str
    obtain ⟨c, p⟩ := guardM_ok (P := fun m => PostE X.K Z W m F H σ' Q) p (fun z => z)
    obtain ⟨n, en, p⟩ := M.ofO_ok (P := fun m => PostE X.K Z W m F H σ' Q) p (fun z => z)
    exact useC call_int_str I r ⟨_, _, rfl, en, of_decide_eq_true c, p.val sf repInt⟩
  · obtain ⟨v, rfl, h1⟩ := pair1 hv
    obtain ⟨a, ws, rfl, ha, ra⟩ := h1.lst
    obtain ⟨ns, en, p⟩ := M.ofO_ok (P := fun m => PostE X.K Z W m F H σ' Q) p (fun z => z)
    have e := intsOf_map ra en
    subst e
    refine useC cr_sortedI I r ⟨a, ns, rfl, SqL.of ha, fun ns' q hp hs nq => ?_⟩
    have e2 : ns' = sortI ns := sortI_uniq hp hs
    subst e2
    exact p.own sf (reps_ofInts _) q nq
  · obtain ⟨v, rfl, h1⟩ := pair1 hv
    obtain ⟨a, ws, rfl, ha, ra⟩ := h1.lst
    obtain ⟨n, en, p⟩ := M.ofO_ok (P := fun m => PostE X.K Z W m F H σ' Q) p (fun z => z)
    obtain ⟨ns, e1, e2⟩ := Option.bind_eq_some_iff.mp en
    have e := intsOf_map ra e1
    subst e
    refine useC (cr_min (hc rfl)) I r ⟨a, ns, rfl, SqL.of ha, ?_, fun m hm hle => ?_⟩
    · cases ns with
      | nil => cases e2
      | cons _ _ => exact Nat.succ_pos _
    · have z := min_uniq e2 hm hle
      subst z
      exact p.val sf repInt
  · obtain ⟨v, rfl, h1⟩ := pair1 hv
    obtain ⟨a, ws, rfl, ha, ra⟩ := h1.lst
    obtain ⟨n, en, p⟩ := M.ofO_ok (P := fun m => PostE X.K Z W m F H σ' Q) p (fun z => z)
    obtain ⟨ns, e1, e2⟩ := Option.bind_eq_some_iff.mp en
    have e := intsOf_map ra e1
    subst e
    refine useC (cr_max (hc rfl)) I r ⟨a, ns, rfl, SqL.of ha, ?_, fun m hm hle => ?_⟩
    · cases ns with
      | nil => cases e2
      | cons _ _ => exact Nat.succ_pos _
    · have z := max_uniq e2 hm hle
      subst z
      exact p.val sf repInt
  · exact (show False from p).elim
def tyName : Ty → String
  | .int => "int" | .bool => "bool" | .tuple => "tuple" | .list => "list" | .str => "str"
def tyS : Ty → Str
  | .int => "int" | .bool => "bool" | .tuple => "tuple" | .list => "list" | .str => "str"
theorem tyboot (t : Ty) : bootBuiltins (tyS t) = some (.type (tyName t)) := by cases t <;> decide +kernel
/-- the type of what is seen -/
def ofD : D → String
  | .non => "NoneType" | .bl _ => "bool" | .int _ => "int" | .str _ => "str" | .tup _ => "tuple" | .lst _ => "list" | .scr _ => "list" | .obj _ => "object"
theorem kit_D (t : Ty) (d : D) (hd : ∀ n, d ≠ .obj n) : kitB (ofD d) (tyName t) = some (isTy t d) := by
  cases d <;> first | (exact absurd rfl (hd _)) | (cases t <;> simp only [ofD, tyName, isTy] <;> decide +kernel)
theorem View.tyX {K : PySem.W.Frag} {F : Fz} {H : Hp} (sf : Ok K F H) : ∀ {d : D} {x : V}, (∀ n, d ≠ .obj n) → View K F H d x → TyX K H x (.type (ofD d))
  | .non, x, _, h => by cases h.non; exact .base .non
  | .bl b, x, _, h => by cases h.bl; exact .base (.bl b)
  | .int b, x, _, h => by cases h.int; exact .base (.int b)
  | .str b, x, _, h => by cases h.str; exact .base (.str b)
  | .tup b, x, _, h => by
    obtain ⟨a, vs, rfl, q, _⟩ := h.tup sf
    rcases q with (q | ⟨o, q⟩) | ⟨o, its, n, q, c, _⟩
    · exact .base (.tup q)
    · exact .fTuple q
    · exact .kTuple q c
  | .scr b, x, _, h => by
    obtain ⟨a, vs, rfl, q, _⟩ := h.scr sf
    rcases q with (q | ⟨o, q⟩) | ⟨o, its, n, q, c, _⟩
    · exact .base (.lst q)
    · exact .base (.frz q)
    · exact .kList q c
  | .lst b, x, _, h => by
    obtain ⟨a, vs, rfl, q, _⟩ := h.lst
    exact .base (.lst q)
  | .obj n, x, hd, h => absurd rfl (hd n)
end

/-! ### what is asked of the syntax -/
mutual
def D.same : D → D → Bool
  | .non, .non => true
  | .bl a, .bl b => a == b
  | .int a, .int b => a == b
  | .str a, .str b => a == b
  | .tup xs, .tup ys => D.sames xs ys
  | .lst xs, .lst ys => D.sames xs ys
  | .scr xs, .scr ys => D.sames xs ys
  | .obj a, .obj b => a == b
  | _, _ => false
def D.sames : List D → List D → Bool
  | [], [] => true
  | x :: xs, y :: ys => D.same x y && D.sames xs ys
  | _, _ => false
end
mutual
theorem D.same_eq : ∀ (d e : D), D.same d e = true → d = e
  | .non, e, h => by cases e <;> simp [D.same] at h <;> rfl
  | .bl a, e, h => by cases e <;> simp [D.same] at h <;> subst h <;> rfl
  | .int a, e, h => by cases e <;> simp [D.same] at h <;> subst h <;> rfl
  | .str a, e, h => by cases e <;> simp [D.same] at h <;> subst h <;> rfl
  | .tup xs, e, h => by
    cases e <;> simp [D.same] at h
    rw [D.sames_eq _ _ h]
  | .lst xs, e, h => by
    cases e <;> simp [D.same] at h
    rw [D.sames_eq _ _ h]
  | .scr xs, e, h => by
    cases e <;> simp [D.same] at h
    rw [D.sames_eq _ _ h]
  | .obj a, e, h => by cases e <;> simp [D.same] at h <;> subst h <;> rfl
theorem D.sames_eq : ∀ (d e : List D), D.sames d e = true → d = e
  | [], e, h => by cases e <;> simp [D.sames] at h <;> rfl
  | x :: xs, e, h => by
    cases e with
    | nil => simp [D.sames] at h
    | cons y ys =>
      simp [D.sames] at h
      rw [D.same_eq _ _ h.1, D.sames_eq _ _ h.2]
end
/-- what is written of the whole text: the def's slots; the functions; the module's constants; the built-in names that nobody shadows; the errors -/
structure Stc where
  N : List Str
  fn : List (Nat × Str × Nat)
  gls : List (Str × D)
  blts : List Str
  exs : List (Nat × Str)
  /-- the classes: number, name, fields; the methods: the def's number, the class's, the name -/
  cs : List (Nat × Str × List Str)
  ms : List (Nat × Nat × Str)
def okName (x : Str) : Bool := !(x == ("__debug__" : Str)) && !(x == ("__classdict__" : Str)) && !(x == ("__name__" : Str))
def glob (sc : Scope) (x : Str) : Bool := decide (sc.names.lookup x = some .globalImplicit)
def vis (sc : Scope) (x : Str) : Bool := match sc.names.lookup x with
  | some .local => true
  | some .cell => true
  | some .free => true
  | _ => false
def loc (sc : Scope) (x : Str) : Bool := match sc.names.lookup x with
  | some .local => true
  | some .cell => true
  | _ => false
def notStar : Expr → Bool
  | .Starred _ _ => false
  | _ => true
def notSlice : Expr → Bool
  | .Slice _ _ _ _ => false
  | _ => true
def notSet : Expr → Bool
  | .Set _ _ _ => false
  | _ => true
def notSup : Expr → Bool
  | .Call (.Name x _) [] [] _ => !(x == ("super" : Str))
  | _ => true
theorem notSup_of {o : Expr} {f : Str} {env : PySem.Env} {w : Sem Value} (h : notSup o = true) : attributeBase o f env w = w := by
  unfold attributeBase
  split
  · rename_i x px pos
    have hx : (x != ("super" : Str)) = true := by simpa [notSup] using h
    rw [hx]
    rfl
  · rfl
theorem starEach_of {e : Expr} {es : List Expr} {env : PySem.Env} (h : notStar e = true) : starEach (e :: es) env = (false, eval e env) :: starEach es env := by
  cases e <;> first | rfl | (simp [notStar] at h)
theorem plainIx_of {e : Expr} (h : notSlice e = true) : PlainIx e := by
  intro o i
  cases e <;> first | rfl | (simp [notSlice] at h)
theorem starEach_any {es : List Expr} {env : PySem.Env} {pos : Pos} (h : es.all notStar = true) : (backTo pos (starEach es env)).any (·.1) = false := by
  have e : ∀ es : List Expr, es.all notStar = true → (starEach es env).any (·.1) = false := by
    intro es
    induction es with
    | nil => intro _; rfl
    | cons x xs ih =>
      intro h
      rw [List.all_cons, Bool.and_eq_true] at h
      rw [starEach_of h.1, List.any_cons, ih h.2]
      rfl
  have b : ∀ l : List (Bool × Sem Value), l.any (·.1) = false → (backTo pos l).any (·.1) = false := by
    intro l h
    first
    | (unfold backTo; rw [List.any_map]; exact h)
    | (unfold backTo; simpa using h)
    | (induction l with
       | nil => rfl
       | cons x xs ih => simpa [backTo] using h)
  exact b _ (e es h)
end EV

set_option Elab.async false
set_option linter.all false
set_option autoImplicit false
set_option maxRecDepth 100000
set_option maxHeartbeats 8000000
/-! EwB4: expressions are what the evaluator says. -/
namespace EV
open PySem PySem.Spec PyProof.Rows L2

/-! ### the syntax, as it stands -/
def CmpOp.is (a b : CmpOp) : Bool := decide (a = b)
/-- f is the field k of the class c -/
def isFld (St : Stc) (c k : Nat) (f : Str) : Bool := St.cs.any fun p => decide (p.1 = c) && decide (p.2.2[k]? = some f)
mutual
def chkTg (St : Stc) (sc : Scope) : Tg → Expr → Bool
  | .nm i, e => (match e with
    | .Name x _ => decide (St.N[i]? = some x) && loc sc x
    | _ => false)
  | .fl i c k, e => (match e with
    | .Attribute (.Name x _) f _ => decide (St.N[i]? = some x) && loc sc x && okName x && isFld St c k f
    | _ => false)
  | .tup ts, e => (match e with
    | .Tuple es _ _ => chkTgs St sc ts es
    | _ => false)
def chkTgs (St : Stc) (sc : Scope) : List Tg → List Expr → Bool
  | [], es => (match es with | [] => true | _ => false)
  | t :: ts, es => (match es with
    | e :: es => notStar e && chkTg St sc t e && chkTgs St sc ts es
    | [] => false)
end
mutual
def tgIx : Tg → List Nat
  | .nm i => [i]
  | .fl _ _ _ => []
  | .tup ts => tgIxs ts
def tgIxs : List Tg → List Nat
  | [] => []
  | t :: ts => tgIx t ++ tgIxs ts
end
def tgIsTup : Expr → Bool
  | .Tuple _ _ _ => true
  | _ => false
def ownOf (N : List Str) : List Nat → List (Str × Nat)
  | [] => []
  | i :: is => ((N[i]?).getD "", i) :: ownOf N is
theorem ownOf_snd (N : List Str) : ∀ is, (ownOf N is).map (·.2) = is
  | [] => rfl
  | i :: is => by rw [ownOf, List.map_cons, ownOf_snd N is]
/-- may stand as a test -/
def testable : E → Bool
  | .ite _ _ _ => false
  | .box _ => false
  | .orV _ _ => false
  | .not a => testable a
  | .and a b => testable a && testable b
  | .or a b => testable a && testable b
  | .one a => testable a
  | _ => true
def smName : Sm → Str
  | .split => "split" | .splitn => "split" | .part => "partition" | .join => "join" | .upper => "upper" | .find => "find"
section
variable (St : Stc) (calm : Bool)
/-- names of errors -/
def chkX (sc : Scope) : List Nat → List Expr → Bool
  | [], es => (match es with | [] => true | _ => false)
  | k :: ks, es => (match es with
    | .Name c _ :: es => glob sc c && okName c && decide ((k, c) ∈ St.exs) && chkX sc ks es
    | _ => false)
mutual
def chkE (sc : Scope) : E → Expr → Bool
  | .var i, e => (match e with
    | .Name x _ => decide (St.N[i]? = some x) && vis sc x && okName x
    | _ => false)
  | .k d, e => (match d, e with
    | .int i, .Constant (.int j) _ _ => decide (i = j)
    | .str s, .Constant (.str t) _ _ => decide (s = t)
    | .bl a, .Constant (.bool b) _ _ => decide (a = b)
    | .non, .Constant .none _ _ => true
    | _, _ => false)
  | .gl x d, e => (match e with
    | .Name y _ => glob sc y && okName y && St.gls.any fun p => decide (p.1 = y) && D.same p.2 d
    | _ => false)
  | .tup es, e => (match e with
    | .Tuple xs _ _ => chkEs sc es xs
    | _ => false)
  | .lst es, e => (match e with
    | .List xs _ => chkEs sc es xs
    | _ => false)
  | .op o a b, e => (match e with
    | .BinOp x p y _ => decide (p = o) && chkE sc a x && chkE sc b y
    | _ => false)
  | .neg a, e => (match e with
    | .UnaryOp .USub x _ => chkE sc a x
    | _ => false)
  | .not a, e => (match e with
    | .UnaryOp .Not x _ => chkE sc a x
    | _ => false)
  | .cmp o a b, e => (match e with
    | .Compare x [p] [y] _ => decide (p = o) && !behindInMarks p y && chkE sc a x && chkE sc b y
    | _ => false)
  | .chain o p a b c, e => (match e with
    | .Compare x [o', p'] [y, z] _ => decide (o' = o) && decide (p' = p) && !lastMarks [o', p'] [y, z] && chkE sc a x && chkE sc b y && chkE sc c z
    | _ => false)
  | .and a b, e => (match e with
    | .BoolOp .And (x :: y :: r) pos => chkE sc a x && chkE sc b (.BoolOp .And (y :: r) pos)
    | _ => false)
  | .or a b, e => (match e with
    | .BoolOp .Or (x :: y :: r) pos => chkE sc a x && chkE sc b (.BoolOp .Or (y :: r) pos)
    | _ => false)
  | .one a, e => (match e with
    | .BoolOp _ [x] _ => chkE sc a x
    | _ => false)
  | .ite c a b, e => (match e with
    | .IfExp t x y _ => testable c && chkE sc c t && chkE sc a x && chkE sc b y
    | _ => false)
  | .call f es, e => (match e with
    | .Call (.Name x _) xs [] _ => calm && glob sc x && okName x && xs.all notStar && (St.fn.any fun p => decide (p.1 = f) && decide (p.2.1 = x)) && chkEs sc es xs
    | _ => false)
  | .blt f es, e => (match e with
    | .Call (.Name x _) (y :: xs) [] _ => (calm || !calmB f) && glob sc x && okName x && (y :: xs).all notStar && decide (x = bname f) && decide (x ∈ St.blts) && chkEs sc es (y :: xs)
    | _ => false)
  | .ix a i, e => (match e with
    | .Subscript x y _ => notSlice y && chkE sc a x && chkE sc i y
    | _ => false)
  | .sl a lo hi, e => (match e with
    | .Subscript x (.Slice l h none _) _ => chkE sc a x && chkO sc lo l && chkO sc hi h
    | _ => false)
  | .isi a t, e => (match e with
    | .Call (.Name f _) [x, .Name y _] [] _ => decide (f = "isinstance") && glob sc f && decide (f ∈ St.blts) && glob sc y && okName y && decide (y = tyS t) && decide (y ∈ St.blts) && notStar x && chkE sc a x
    | _ => false)
  | .isx i cs, e => (match e with
    | .Call (.Name f _) [.Name x _, y] [] _ => decide (f = "isinstance") && glob sc f && decide (f ∈ St.blts) && decide (St.N[i]? = some x) && vis sc x && okName x && (match y, cs with
      | .Name c _, [k] => glob sc c && okName c && (decide ((k, c) ∈ St.exs) || (decide (k = 99) && decide (c = "ValueError") && decide (c ∈ St.blts)))
      | .Tuple ys _ _, cs => decide (cs.length ≤ 10) && chkX St sc cs ys
      | _, _ => false)
    | _ => false)
  | .lc vs tg it c x, e => (match e with
    | .ListComp elt [⟨t, iter, ifs, a⟩] scope _ => calm && decide (a = 0) && blkC St.N sc scope (ownOf St.N vs) && chkI sc it t iter && notSet iter && chkTg St scope tg t && ((tgIx tg).all fun i => decide (i ∈ vs)) && (match c, ifs with
      | none, [] => true
      | some c', [q] => testable c' && chkE (relS scope sc) c' q
      | _, _ => false) && chkE (relS scope sc) x elt
    | _ => false)
  | .box a, e => chkE sc a e
  | .fld c k a, e => (match e with
    | .Attribute x f _ => notSup x && isFld St c k f && chkE sc a x
    | _ => false)
  | .new c f n es, e => (match e with
    | .Call (.Name x _) xs [] _ => calm && glob sc x && okName x && xs.all notStar && decide (n < 900) && (St.cs.any fun p => decide (p.1 = c) && decide (p.2.1 = x) && decide (p.2.2.length = n)) && (St.ms.any fun p => decide (p.1 = f) && decide (p.2.1 = c) && decide (p.2.2 = "__init__")) && chkEs sc es xs
    | _ => false)
  | .mth c f a es, e => (match e with
    | .Call (.Attribute o m apos) xs [] pos => calm && notSup o && (apos.endLine == pos.line) && decide (xs.length < 20) && xs.all notStar && (St.ms.any fun p => decide (p.1 = f) && decide (p.2.1 = c) && decide (p.2.2 = m)) && (St.cs.any fun p => decide (p.1 = c)) && chkE sc a o && chkEs sc es xs
    | _ => false)
  | .ixr a i, e => (match e with
    | .Subscript x y _ => notSlice y && chkE sc a x && chkE sc i y
    | _ => false)
  | .slr a lo hi, e => (match e with
    | .Subscript x (.Slice l h none _) _ => chkE sc a x && chkO sc lo l && chkO sc hi h
    | _ => false)
  | .cmpr o a b, e => (match e with
    | .Compare x [p] [y] _ => decide (p = o) && !behindInMarks p y && chkE sc a x && chkE sc b y
    | _ => false)
  | .bltr f es, e => (match e with
    | .Call (.Name x _) (y :: xs) [] _ => calm && glob sc x && okName x && (y :: xs).all notStar && decide (x = bname f) && decide (x ∈ St.blts) && chkEs sc es (y :: xs)
    | _ => false)
  | .chn a os es, e => (match e with
    | .Compare x (o :: p :: ops) (y :: z :: ys) _ => decide (o :: p :: ops = os) && decide (os.length = es.length) && !lastMarks (o :: p :: ops) (y :: z :: ys) && chkE sc a x && chkEs sc es (y :: z :: ys)
    | _ => false)
  | .orV a b, e => (match e with
    | .BoolOp .Or [x, y] _ => chkE sc a x && chkE sc b y
    | _ => false)
  | .sm m a es, e => (match e with
    | .Call (.Attribute o n apos) xs [] pos => decide (n = smName m) && notSup o && (apos.endLine == pos.line) && decide (xs.length < 20) && xs.all notStar && chkE sc a o && chkEs sc es xs
    | _ => false)
  | .fs es, e => (match e with
    | .JoinedStr (v :: w :: vs) _ => chkJ sc es (v :: w :: vs)
    | _ => false)
  | .lrng lo hi, e => (match e with
    | .Call (.Name l _) [.Call (.Name f _) xs [] _] [] _ => calm && decide (l = "list") && glob sc l && decide (l ∈ St.blts) && decide (f = "range") && glob sc f && decide (f ∈ St.blts) && (match lo, xs with
      | none, [x] => notStar x && chkE sc hi x
      | some a, [x, y] => notStar x && notStar y && chkE sc a x && chkE sc hi y
      | _, _ => false)
    | _ => false)
  | .lset a, e => (match e with
    | .Call (.Name l _) [.Call (.Name f _) [x] [] _] [] _ => calm && decide (l = "len") && glob sc l && decide (l ∈ St.blts) && decide (f = "set") && glob sc f && decide (f ∈ St.blts) && notStar x && chkE sc a x
    | _ => false)
  | .popr a i, e => (match e with
    | .Call (.Attribute o m apos) xs [] pos => decide (m = "pop") && notSup o && (apos.endLine == pos.line) && chkE sc a o && (match i, xs with
      | none, [] => true
      | some j, [x] => notStar x && chkE sc j x
      | _, _ => false)
    | _ => false)
def chkJ (sc : Scope) : List E → List Expr → Bool
  | [], vs => (match vs with | [] => true | _ => false)
  | a :: as, vs => (match vs with
    | .FormattedValue x c none _ :: vs => decide (c = -1) && chkE sc a x && chkJ sc as vs
    | .Constant (.str t) u p :: vs => (match a with | .k (.str s) => decide (s = t) | _ => false) && chkJ sc as vs
    | _ => false)
def chkO (sc : Scope) : Option E → Option Expr → Bool
  | none, none => true
  | some a, some x => chkE sc a x
  | _, _ => false
def chkEs (sc : Scope) : List E → List Expr → Bool
  | [], es => (match es with | [] => true | _ => false)
  | a :: as, es => (match es with
    | x :: xs => notStar x && chkE sc a x && chkEs sc as xs
    | [] => false)
def chkI (sc : Scope) : I → Expr → Expr → Bool
  | .seq e, _, x => chkE sc e x
  | .rng es, _, x => (match x with
    | .Call (.Name f _) [a] [] _ => calm && decide (f = "range") && glob sc f && decide (f ∈ St.blts) && (match es with | [_] => true | _ => false) && chkEs sc es [a]
    | .Call (.Name f _) [a, b] [] _ => calm && decide (f = "range") && glob sc f && decide (f ∈ St.blts) && (match es with | [_, _] => true | _ => false) && chkEs sc es [a, b]
    | _ => false)
  | .enum e, t, x => (match x with
    | .Call (.Name f _) [a] [] _ => decide (f = "enumerate") && glob sc f && decide (f ∈ St.blts) && tgIsTup t && notStar a && chkE sc e a
    | _ => false)
  | .zip a b, t, x => (match x with
    | .Call (.Name f _) [y, z] [] _ => decide (f = "zip") && glob sc f && decide (f ∈ St.blts) && tgIsTup t && notStar y && notStar z && chkE sc a y && chkE sc b z
    | _ => false)
  | .seqr e, _, x => chkE sc e x
  | .enumr e, t, x => (match x with
    | .Call (.Name f _) [a] [] _ => decide (f = "enumerate") && glob sc f && decide (f ∈ St.blts) && tgIsTup t && notStar a && chkE sc e a
    | _ => false)
  | .zipr a b, t, x => (match x with
    | .Call (.Name f _) [y, z] [] _ => decide (f = "zip") && glob sc f && decide (f ∈ St.blts) && tgIsTup t && notStar y && notStar z && chkE sc a y && chkE sc b z
    | _ => false)
end
end

/-! ### what a def promises -/
/-- f(..) gives what g gives, and leaves what stood -/
def spF (K : PySem.W.Frag) (cl : Nat → Option (Addr × List Str)) (cls : Nat → Value) (ar : Nat) (g : List D → M R) : Sp := fun vs H Q E => ∃ F ds, Ok K F H ∧ F.cl = cl ∧ Reps K F ds vs ∧ ds.length = ar ∧ (match g ds F.st with
  | .ok r st => ∀ F' H', F'.st = st → Ext K F H F' H' → ∀ v, RepR K H F' H' r v → Q v H'
  | .ex c st => ∀ F' H', F'.st = st → Ext K F H F' H' → E (cls c) none H'
  | .bad => False)
/-- the reading of isinstance(e, ..), e the error that a suite holds -/
def rIsX (Z : Z0) (sub : Sub) (a : Addr) (c : Nat) : List V → Hp → VK → Prop := fun xs H Q =>
  (∃ (k : Nat) (C : Addr) (b : Bool), xs = [.ref a, .ref C] ∧ Z.cls k = .ref C ∧ sub c k = some b ∧ Q (.bl b) H) ∨
  (∃ b : Bool, xs = [.ref a, .ty "ValueError"] ∧ Z.cls 99 = .type "ValueError" ∧ sub c 99 = some b ∧ Q (.bl b) H) ∨
  (∃ (tp : Addr) (ks : List Nat) (Cs : List Addr) (b : Bool), xs = [.ref a, .ref tp] ∧ H tp = some (.tup (Cs.map V.ref)) ∧ ks.map Z.cls = Cs.map Value.ref ∧ anyO sub c ks = some b ∧ Q (.bl b) H)
/-- where an expression stands -/
structure Good (X : Cx) (St : Stc) (Z : Z0) (W : WX) (G : Env) (sub : Sub) (k : Nat) (calm : Bool) : Prop where
  N : X.N = St.N
  nd : X.N.Nodup
  tk : Takes X W
  calm : calm = true → X.calm = true ∧ Room (k + 1) X.A ∧ Z.hx = none
  un : X.A.units + 65 < cLine
  fn : ∀ f g, G f = some g → ∃ ar fa fd ps, PySem.W.keepIn X.K (.ref fa) = true ∧ Binds X.K fd ps [] ∧ ps.length = ar ∧ (∀ ds st, g ds st ≠ .bad → ds.length = ar) ∧ FnOk X.prog X.w X.K X.mg X.base (L2.CX X.prog X.w) k fa fd ps (spF X.K Z.F0.cl Z.cls ar g) ∧
    (∀ p ∈ St.fn, p.1 = f → X.mg p.2.1 = some (.ref fa)) ∧ (∀ p ∈ St.ms, p.1 = f → ∃ C ns, Z.F0.cl p.2.1 = some (C, ns) ∧ Meth X.K C p.2.2 fa ∧ p.2.2 ∉ ns)
  cs : ∀ p ∈ St.cs, ∃ C, Z.F0.cl p.1 = some (C, p.2.2) ∧ X.mg p.2.1 = some (.ref C) ∧ Cls X.K C ∧ (∀ f ∈ p.2.2, NoAttr X.K C f) ∧ PySem.W.makesIn X.K C = true ∧ PySem.W.keepIn X.K (.ref C) = true ∧ p.2.2.Nodup
  blt : ∀ x ∈ St.blts, X.mg x = none
  exn : ∀ p ∈ St.exs, ∃ C, X.mg p.2 = some (.ref C) ∧ Z.cls p.1 = .ref C
  subx : ∀ c k b, sub c k = some b → PySem.W.exmOne X.K (Z.cls c) (Z.cls k) = some b ∧ PySem.W.kitOne X.K (Z.cls c) (Z.cls k) = some b ∧ (k = 99 → Z.cls k = .type "ValueError")
  isx : ∀ a c j, Z.hx = some (a, c, j) → CallR X (.builtin "isinstance") (rIsX Z sub a c)
  gl : ∀ p ∈ St.gls, ∃ u v, X.mg p.1 = some u ∧ L2.RelV v u ∧ ∀ F, Rep X.K F p.2 v

section
variable {K : PySem.W.Frag} {St : Stc} {Z : Z0} {G : Env} {sub : Sub} {k : Nat}
theorem okName_1 {x : Str} (h : okName x = true) : (x == ("__debug__" : Str)) = false := by
  unfold okName at h; simp only [Bool.and_eq_true, Bool.not_eq_true'] at h; exact h.1.1
theorem okName_2 {x : Str} (h : okName x = true) : (x == ("__classdict__" : Str)) = false := by
  unfold okName at h; simp only [Bool.and_eq_true, Bool.not_eq_true'] at h; exact h.1.2
theorem okName_3 {x : Str} (h : okName x = true) : x ≠ "__name__" := by
  unfold okName at h; simp only [Bool.and_eq_true, Bool.not_eq_true'] at h
  intro e; subst e; simp at h
theorem vis_of {sc : Scope} {x : Str} (h : vis sc x = true) : Vis sc x := by
  unfold vis at h
  unfold Vis
  split at h
  · exact .inl ‹_›
  · exact .inr (.inl ‹_›)
  · exact .inr (.inr ‹_›)
  · cases h
theorem loc_of {sc : Scope} {x : Str} (h : loc sc x = true) : L2.Loc sc x := by
  unfold loc at h
  unfold L2.Loc
  split at h
  · exact .inl ‹_›
  · exact .inr ‹_›
  · cases h
theorem okb {α β : Type} (a : α) (f : α → M β) : (M.ok a).bind f = f a := rfl
/-- weaker readings -/
theorem PE.imp {X : Cx} {e : Expr} {t t' : TE} (h : PE X e t) (i : ∀ σ H Q, t' σ H Q → t σ H Q) : PE X e t' := ⟨fun pins s σ H Q I q => h.run pins s σ H Q I (i σ H Q q)⟩
theorem PT.imp {X : Cx} {e : Expr} {t t' : TT} (h : PT X e t) (i : ∀ σ H Q, t' σ H Q → t σ H Q) : PT X e t' := ⟨fun pins s σ H Q I q => h.run pins s σ H Q I (i σ H Q q)⟩
theorem PW.imp {X : Cx} {e : Expr} {t t' : TT} (h : PW X e t) (i : ∀ σ H Q, t' σ H Q → t σ H Q) : PW X e t' := ⟨fun wh pins s σ H Q I q => h.run wh pins s σ H Q I (i σ H Q q)⟩
theorem PA.imp {X : Cx} {e : List Expr} {t t' : TA} (h : PA X e t) (i : ∀ σ H Q, t' σ H Q → t σ H Q) : PA X e t' := ⟨fun pos pins s σ H Q I q => h.run pos pins s σ H Q I (i σ H Q q)⟩
theorem PO.imp {X : Cx} {e : Option Expr} {t t' : TO} (h : PO X e t) (i : ∀ σ H Q, t' σ H Q → t σ H Q) : PO X e t' := ⟨fun pins s σ H Q I q => h.run pins s σ H Q I (i σ H Q q)⟩
theorem PI.imp {X : Cx} {tg e : Expr} {t t' : TI} (h : PI X tg e t) (i : ∀ σ H Q, t' σ H Q → t σ H Q) : PI X tg e t' := ⟨fun pins s σ H Q I q => h.run pins s σ H Q I (i σ H Q q)⟩
theorem PTs.imp {X : Cx} {e : List Expr} {t t' : TT} (h : PTs X e t) (i : ∀ σ H Q, t' σ H Q → t σ H Q) : PTs X e t' := ⟨fun pins s σ H Q I q => h.run pins s σ H Q I (i σ H Q q)⟩

/-- an expression, then what is done with it -/
theorem tE_bind {W : WX} {f : List S → M R} {g : List S → R → M R} {σ : L2.St} {H : Hp} {Q : VK} (h : tE K Z W (fun ss => (f ss).bind (g ss)) σ H Q) :
    tE K Z W f σ H fun v H1 => ∃ F ss r F0 H0, Rel K Z F ss σ H1 ∧ Ext K F0 H0 F H1 ∧ RepR K H0 F H1 r v ∧ (f ss F0.st = .ok r F.st) ∧ PostE K Z W (g ss r) F H1 σ Q := by
  obtain ⟨F, ss, rel, p⟩ := h
  exact ⟨F, ss, rel, (PostE.bind p).toE fun r F1 H1 v e x q rv => ⟨F1, ss, r, F, H, rel.grow x, x, rv, e, q⟩⟩
theorem tE_two {W : WX} {a b : List S → M R} {f : D → D → M R} {σ : L2.St} {H : Hp} {Q : VK} (h : tE K Z W (fun ss => (a ss).bind fun x => (b ss).bind fun y => f x.view y.view) σ H Q) :
    tOp (rOp K Z W f) (tE K Z W a) (tE K Z W b) σ H Q := by
  obtain ⟨F, ss, rel, p⟩ := h
  exact ⟨F, ss, rel, (PostE.bind p).toE fun x F1 H1 v e1 x1 p1 q1 => ⟨F1, ss, rel.grow x1, (PostE.bind p1).toE fun y F2 H2 w e2 x2 p2 q2 =>
    ⟨F2, σ, x.view, y.view, x2.ok, RepR.view x2.ok (RepR.ext x2 q1), RepR.view x2.ok q2, p2⟩⟩⟩
/-- a part that leaves the store as it is -/
theorem PostM.pure {α β : Type} {m : M β} {f : β → M α} {F : Fz} {H : Hp} {σ : L2.St} {W : WX} {Q : α → Fz → Hp → Prop} {b : β} (e : m F.st = .ok b F.st) (p : PostM K Z W (m.bind f) F H σ Q) : PostM K Z W (f b) F H σ Q := by
  have e2 : (m.bind f) F.st = f b F.st := by unfold M.bind; rw [e]
  unfold PostM at p ⊢
  rw [e2] at p; exact p
theorem PostM.isBad {α β : Type} {m : M β} {f : β → M α} {F : Fz} {H : Hp} {σ : L2.St} {W : WX} {Q : α → Fz → Hp → Prop} (e : m F.st = .bad) (p : PostM K Z W (m.bind f) F H σ Q) : False := by
  have e2 : (m.bind f) F.st = .bad := by unfold M.bind; rw [e]
  unfold PostM at p
  rw [e2] at p; exact p
theorem der_obj (n : Nat) (st : Store) : (∃ xs, st[n]? = some (.lst xs) ∧ R.der (.val (.obj n)) st = .ok (.lst xs) st) ∨ R.der (.val (.obj n)) st = .bad := by
  unfold R.der M.get
  dsimp only
  cases e : st[n]? with
  | none => exact .inr rfl
  | some o => cases o with
    | lst xs => exact .inl ⟨xs, rfl, rfl⟩
    | inst _ _ => exact .inr rfl
    | dic _ => exact .inr rfl
/-- what stands behind a name of the store -/
theorem der_ok {α : Type} {r : R} {f : D → M α} {F : Fz} {H H0 : Hp} {σ : L2.St} {W : WX} {Q : α → Fz → Hp → Prop} {v : V} (ok : Ok K F H) (rv : RepR K H0 F H r v) (p : PostM K Z W (r.der.bind f) F H σ Q) : ∃ d, View K F H d v ∧ PostM K Z W (f d) F H σ Q := by
  by_cases ho : ∃ n, r = .val (.obj n)
  · obtain ⟨n, rfl⟩ := ho
    have rv' : Rep K F (.obj n) v := rv
    unfold Rep at rv'
    obtain ⟨a, rfl, ha⟩ := rv'
    rcases der_obj n F.st with ⟨xs, e, q⟩ | q
    · obtain ⟨b, h1, vs, h2, h3⟩ := ok.ob n _ e
      rw [ha] at h1; cases h1
      exact ⟨.lst xs, ⟨a, vs, rfl, h2, h3⟩, p.pure q⟩
    · exact (p.isBad q).elim
  · have e : r.der = .ok r.view := by
      cases r with
      | val d => cases d <;> first | rfl | exact absurd ⟨_, rfl⟩ ho
      | own xs => rfl
      | bor xs => rfl
    rw [e] at p
    exact ⟨r.view, RepR.view ok rv, p⟩
theorem tE_twoR {W : WX} {a b : List S → M R} {f : D → D → M R} {σ : L2.St} {H : Hp} {Q : VK} (h : tE K Z W (fun ss => (a ss).bind fun x => (b ss).bind fun y => x.der.bind fun d => f d y.view) σ H Q) :
    tOp (rOp K Z W f) (tE K Z W a) (tE K Z W b) σ H Q := by
  obtain ⟨F, ss, rel, p⟩ := h
  refine ⟨F, ss, rel, (PostE.bind p).toE fun x F1 H1 v e1 x1 p1 q1 => ⟨F1, ss, rel.grow x1, (PostE.bind p1).toE fun y F2 H2 w e2 x2 p2 q2 => ?_⟩⟩
  obtain ⟨d, hd, pd⟩ := der_ok x2.ok (RepR.ext x2 q1) p2
  exact ⟨F2, σ, d, y.view, x2.ok, hd, RepR.view x2.ok q2, pd⟩
theorem tE_twoRR {W : WX} {a b : List S → M R} {f : D → D → M R} {σ : L2.St} {H : Hp} {Q : VK} (h : tE K Z W (fun ss => (a ss).bind fun x => (b ss).bind fun y => x.der.bind fun d => y.der.bind fun e => f d e) σ H Q) :
    tOp (rOp K Z W f) (tE K Z W a) (tE K Z W b) σ H Q := by
  obtain ⟨F, ss, rel, p⟩ := h
  refine ⟨F, ss, rel, (PostE.bind p).toE fun x F1 H1 v e1 x1 p1 q1 => ⟨F1, ss, rel.grow x1, (PostE.bind p1).toE fun y F2 H2 w e2 x2 p2 q2 => ?_⟩⟩
  obtain ⟨d, hd, pd⟩ := der_ok x2.ok (RepR.ext x2 q1) p2
  obtain ⟨e, he, pe⟩ := der_ok x2.ok q2 pd
  exact ⟨F2, σ, d, e, x2.ok, hd, he, pe⟩

/-- a bool -/
theorem asBool_ok {α : Type} {r : R} {f : Bool → M α} {P : M α → Prop} (h : P ((asBool r).bind f)) (nb : ¬ P .bad) : ∃ b, r = .val (.bl b) ∧ P (f b) := by
  unfold asBool at h
  split at h
  · exact ⟨_, rfl, h⟩
  · exact absurd h nb
theorem asInt_ok {α : Type} {r : R} {f : Int → M α} {P : M α → Prop} (h : P ((asInt r).bind f)) (nb : ¬ P .bad) : ∃ b, r = .val (.int b) ∧ P (f b) := by
  unfold asInt at h
  split at h
  · exact ⟨_, rfl, h⟩
  · exact absurd h nb
theorem fix_ok {r : R} {α : Type} {f : D → M α} {F : Fz} {H : Hp} {σ : L2.St} {W : WX} {Q : α → Fz → Hp → Prop} (p : PostM K Z W (r.fix.bind f) F H σ Q) : ∃ d, r.fix F.st = .ok d F.st ∧ PostM K Z W (f d) F H σ Q := by
  cases r with
  | val d => exact ⟨d, rfl, p⟩
  | own xs => exact ⟨.lst xs, rfl, p⟩
  | bor xs => exact (show False from p).elim
theorem chain_two {W : WX} {a b c : List S → M R} {f f' : D → D → M R} {σ : L2.St} {H : Hp} {Q : VK} (h : tE K Z W (fun ss => (a ss).bind fun x => (b ss).bind fun y => (f x.view y.view).bind fun z => (asBool z).bind fun t =>
      if t then (c ss).bind fun w => f' y.view w.view else .ok (.val (.bl false))) σ H Q) :
    tChain (rOp K Z W f) (rOp K Z W f') (tE K Z W a) (tE K Z W b) (tE K Z W c) σ H Q := by
  obtain ⟨F, ss, rel, p⟩ := h
  refine ⟨F, ss, rel, (PostE.bind p).toE fun x F1 H1 v e1 x1 p1 q1 => ⟨F1, ss, rel.grow x1, (PostE.bind p1).toE fun y F2 H2 w e2 x2 p2 q2 => ?_⟩⟩
  refine ⟨F2, σ, x.view, y.view, x2.ok, RepR.view x2.ok (RepR.ext x2 q1), RepR.view x2.ok q2, (PostE.bind p2).toE fun z F3 H3 zv e3 x3 p3 q3 => ?_⟩
  obtain ⟨t, rfl, pn⟩ := asBool_ok (P := fun m => PostE K Z W m F3 H3 σ Q) p3 (fun z => z)
  have q' : Rep K F3 (.bl t) zv := q3
  unfold Rep at q'
  refine ⟨t, q', ?_⟩
  cases t with
  | false => rw [if_neg Bool.false_ne_true]; rw [if_neg Bool.false_ne_true] at pn; exact pn.val x3.ok repBl
  | true =>
    rw [if_pos rfl]; rw [if_pos rfl] at pn
    exact ⟨F3, ss, ((rel.grow x1).grow x2).grow x3, (PostE.bind pn).toE fun w' F4 H4 wv e4 x4 p4 q4 =>
      ⟨F4, σ, y.view, w'.view, x4.ok, RepR.view x4.ok (RepR.ext (x3.trans x4) q2), RepR.view x4.ok q4, p4⟩⟩
/-- an expression as a test -/
theorem tB_of {W : WX} {f : List S → M R} {σ : L2.St} {H : Hp} {Q : Bool → Hp → Prop} (h : tB K Z W (fun ss => (f ss).bind asBool) σ H Q) :
    tE K Z W f σ H fun v H1 => ∃ b, v = .bl b ∧ Q b H1 := by
  obtain ⟨F, ss, rel, p⟩ := h
  refine ⟨F, ss, rel, (PostB.bind p).toE fun r F1 H1 v e x q rv => ?_⟩
  cases r with
  | val d =>
    cases d with
    | bl b =>
      have q' : Rep K F1 (.bl b) v := rv
      unfold Rep at q'
      exact ⟨b, q', q F1 H1 rfl (Ext.refl x.ok)⟩
    | _ => exact (show False from q).elim
  | _ => exact (show False from q).elim
end
end EV

set_option Elab.async false
set_option linter.all false
set_option autoImplicit false
set_option maxRecDepth 100000
set_option maxHeartbeats 8000000
/-! EwB5: fields; targets. -/
namespace EV
open PySem PySem.Spec PyProof.Rows L2

/-! ### fields -/
theorem putF_len {f : Str} {v w : V} : ∀ {kvs : List (Str × V)}, kvs.lookup f = some w → (putF f v kvs).length = kvs.length
  | [], h => by simp at h
  | (g, x) :: r, h => by
    by_cases q : g = f
    · subst q; simp [putF]
    · have q' : (f == g) = false := by simpa using fun z : f = g => q z.symm
      rw [List.lookup_cons, q'] at h
      simp only [putF, if_neg q, List.length_cons]
      rw [putF_len h]
theorem filter_set_len {d : D} : ∀ {fs : List (Option D)} {k : Nat} {o : Option D}, fs[k]? = some o → ((fs.set k (some d)).filter Option.isSome).length = (fs.filter Option.isSome).length + (if o.isSome then 0 else 1)
  | [], k, o, h => by simp at h
  | x :: fs, 0, o, h => by
    simp at h; subst h
    cases x <;> simp
  | x :: fs, k + 1, o, h => by
    have ih := filter_set_len (d := d) (fs := fs) (k := k) (o := o) (by simpa using h)
    simp only [List.set_cons_succ, List.filter_cons]
    split
    · simp only [List.length_cons, ih]; omega
    · exact ih
theorem nodup_at {ns : List Str} (h : ns.Nodup) {i j : Nat} {f : Str} (h1 : ns[i]? = some f) (h2 : ns[j]? = some f) : i = j := by
  obtain ⟨l1, e1⟩ := List.getElem?_eq_some_iff.mp h1
  obtain ⟨l2, e2⟩ := List.getElem?_eq_some_iff.mp h2
  exact (List.getElem_inj h).mp (e1.trans e2.symm)
section
variable {K : PySem.W.Frag} {F : Fz} {H : Hp}
theorem FsRep.lt {ns : List Str} {fs : List (Option D)} {kvs : List (Str × V)} (h : FsRep K F ns fs kvs) : kvs.length < 900 := by
  have h1 := h.cnt
  have h2 := List.length_filter_le Option.isSome fs
  have h3 := h.small
  omega
theorem FsRep.put {ns : List Str} {fs : List (Option D)} {kvs : List (Str × V)} (h : FsRep K F ns fs kvs) {k : Nat} {f : Str} {d : D} {v : V} (hk : ns[k]? = some f) (r : Rep K F d v) : FsRep K F ns (fs.set k (some d)) (putF f v kvs) := by
  have hl : k < fs.length := by rw [← h.len]; exact (List.getElem?_eq_some_iff.mp hk).1
  have e := List.getElem?_eq_getElem hl
  refine ⟨h.nd, by simp [h.len], by simpa using h.small, ?_, ?_, ?_, ?_⟩
  · rw [filter_set_len e]
    cases q : fs[k] with
    | none =>
      have := length_putF f v kvs
      have := h.cnt
      simp; omega
    | some d0 =>
      rw [q] at e
      obtain ⟨w, hw, _⟩ := h.at_ k f d0 hk e
      rw [putF_len hw]
      simpa using h.cnt
  · intro k' f' d' h1 h2
    rw [lookup_putF]
    rcases set_cases h2 with ⟨rfl, _, z⟩ | ⟨n, z⟩
    · rw [hk] at h1; cases h1; cases z
      exact ⟨v, by rw [if_pos rfl], r⟩
    · have : f' ≠ f := fun y => n (nodup_at h.nd hk (y ▸ h1))
      rw [if_neg this]
      exact h.at_ k' f' d' h1 z
  · intro k' f' h1 h2
    rw [lookup_putF]
    rcases set_cases h2 with ⟨rfl, _, z⟩ | ⟨n, z⟩
    · cases z
    · have : f' ≠ f := fun y => n (nodup_at h.nd hk (y ▸ h1))
      rw [if_neg this]
      exact h.no k' f' h1 z
  · intro f' h1
    rw [lookup_putF]
    have : f' ≠ f := fun y => h1 (y ▸ List.mem_of_getElem? hk)
    rw [if_neg this]
    exact h.out f' h1
theorem setFld_inv {d v : D} {c k : Nat} {st : Store} : setFld d c k v st = .bad ∨ ∃ n fs, d = .obj n ∧ st[n]? = some (.inst c fs) ∧ k < fs.length ∧ setFld d c k v st = .ok () (st.set n (.inst c (fs.set k (some v)))) := by
  cases d with
  | obj n =>
    unfold setFld M.get
    dsimp only
    cases e : st[n]? with
    | none => exact .inl rfl
    | some o =>
      cases o with
      | inst c' fs =>
        dsimp only
        by_cases h : c' = c ∧ k < fs.length
        · rw [if_pos h]
          obtain ⟨rfl, h⟩ := h
          exact .inr ⟨n, fs, rfl, e, h, rfl⟩
        · rw [if_neg h]; exact .inl rfl
      | lst xs => exact .inl rfl
      | dic xs => exact .inl rfl
  | _ => exact .inl rfl
theorem getFld_inv {d : D} {c k : Nat} {st : Store} : getFld d c k st = .bad ∨ ∃ n fs v, d = .obj n ∧ st[n]? = some (.inst c fs) ∧ fs[k]? = some (some v) ∧ getFld d c k st = .ok (.val v) st := by
  cases d with
  | obj n =>
    unfold getFld M.get
    dsimp only
    cases e : st[n]? with
    | none => exact .inl rfl
    | some o =>
      cases o with
      | inst c' fs =>
        dsimp only
        by_cases h : c' = c
        · rw [if_pos h]
          subst h
          cases e2 : fs[k]? with
          | none => exact .inl rfl
          | some o =>
            cases o with
            | none => exact .inl rfl
            | some v => exact .inr ⟨n, fs, v, rfl, e, e2, rfl⟩
        · rw [if_neg h]; exact .inl rfl
      | lst xs => exact .inl rfl
      | dic xs => exact .inl rfl
  | _ => exact .inl rfl
/-- an instance in the store -/
theorem Ok.inst (ok : Ok K F H) {n c : Nat} {fs : List (Option D)} {v : V} (e : F.st[n]? = some (.inst c fs)) (rv : Rep K F (.obj n) v) : ∃ a C ns dx kvs, v = .ref a ∧ F.al[n]? = some a ∧ F.cl c = some (C, ns) ∧ H a = some (.ins C dx kvs) ∧ FsRep K F ns fs kvs := by
  unfold Rep at rv
  obtain ⟨a, rfl, ha⟩ := rv
  obtain ⟨b, h1, C, ns, dx, kvs, h2, h3, h4⟩ := ok.ob n _ e
  rw [ha] at h1; cases h1
  exact ⟨a, C, ns, dx, kvs, rfl, ha, h2, h3, h4⟩
theorem Ok.list (ok : Ok K F H) {n : Nat} {xs : List D} {v : V} (e : F.st[n]? = some (.lst xs)) (rv : Rep K F (.obj n) v) : ∃ a vs, v = .ref a ∧ F.al[n]? = some a ∧ H a = some (.lst vs) ∧ Reps K F xs vs := by
  unfold Rep at rv
  obtain ⟨a, rfl, ha⟩ := rv
  obtain ⟨b, h1, vs, h3, h4⟩ := ok.ob n _ e
  rw [ha] at h1; cases h1
  exact ⟨a, vs, rfl, ha, h3, h4⟩
theorem Rep.wr {n : Nat} {o : Ob} {d : D} {v : V} (h : Rep K F d v) : Rep K (F.wr n o) d v := Rep.mono Le.wr d v h
/-- a field is written -/
theorem setFld_ok {Z : Z0} {W : WX} {σ : L2.St} {Q : Unit → Fz → Hp → Prop} {d v : D} {c k : Nat} {x y : V} (ok : Ok K F H) (rx : Rep K F d x) (ry : Rep K F v y) (p : PostM K Z W (setFld d c k v) F H σ Q) :
    ∃ a C ns dx kvs, x = .ref a ∧ F.cl c = some (C, ns) ∧ H a = some (.ins C dx kvs) ∧ kvs.length < 1000 ∧ (∀ f, ns[k]? = some f → ∃ F', Ext K F H F' (upd H a (.ins C dx (putF f y kvs))) ∧ Q () F' (upd H a (.ins C dx (putF f y kvs)))) := by
  rcases setFld_inv (d := d) (v := v) (c := c) (k := k) (st := F.st) with e | ⟨n, fs, rfl, h1, h2, e⟩
  · unfold PostM at p; rw [e] at p; exact p.elim
  · obtain ⟨a, C, ns, dx, kvs, rfl, ha, h3, h4, h5⟩ := ok.inst h1 rx
    refine ⟨a, C, ns, dx, kvs, rfl, h3, h4, by have := h5.lt; omega, fun f hf => ?_⟩
    have X : Ext K F H (F.wr n (.inst c (fs.set k (some v)))) (upd H a (.ins C dx (putF f y kvs))) :=
      Ext.wr ok ha ⟨C, ns, dx, _, h3, upd_same, (h5.mono Le.wr).put hf (Rep.wr ry)⟩
    refine ⟨_, X, ?_⟩
    unfold PostM at p; rw [e] at p
    exact p _ _ rfl X
end
/-- a.f = .. as a target -/
def gFld (K : PySem.W.Frag) (ta : TE) (f : Str) : TG := fun y σ H Q => ta σ H fun x H2 => ∃ a C dx fs, x = .ref a ∧ H2 a = some (.ins C dx fs) ∧ Cls K C ∧ NoAttr K C f ∧ fs.length < 1000 ∧ Q σ (upd H2 a (.ins C dx (putF f y fs)))
theorem pg_fld {X : Cx} {o : Expr} {f : Str} {pos : Pos} {ta : TE} (ho : PE X o ta) : PG X (.Attribute o f pos) (gFld X.K ta f) := by
  refine ⟨fun pins s σ H v u Q I r h => ?_⟩
  show wpAny _ _ (do
    let ov ← holding [u] (eval o X.env)
    standAt pos.atName
    holding [u, ov] (setAttr ov f u)
    release [u, ov] []) _ _ _
  refine wpAny_bind (wpAny_holding (thn (ho.run pins s σ H _ I h) fun ov s1 ⟨x, H1, I1, rx, a, C, dx, fs, ex, ea, c, n, l, q⟩ => ?_))
  subst ex
  obtain rfl : ov = Value.ref a := rx
  refine wpAny_bind (wpAny_standAt (wpAny_bind (wpAny_holding (setattr_ok I1 ea c n l r fun s3 I3 => ?_))))
  exact wpAny_release ⟨σ, _, I3, q⟩

theorem Loc.vis {sc : Scope} {x : Str} (h : L2.Loc sc x) : Vis sc x := by
  rcases h with h | h
  · exact .inl h
  · exact .inr (.inl h)
/-! ### targets -/
/-- the reading of a target -/
def gT (K : PySem.W.Frag) (Z : Z0) (tg : Tg) : TG := fun v σ H Q => ∃ F ss d, Rel K Z F ss σ H ∧ Rep K F d v ∧
  PostM K Z (fun _ _ _ _ => False) (asg tg d ss) F H σ fun ss' F' H' => ∀ σ', Rel K Z F' ss' σ' H' → (∀ j, j ∉ tgIx tg → σ'[j]? = σ[j]?) → Q σ' H'
def gTs (K : PySem.W.Frag) (Z : Z0) (tg : List Tg) : TGs := fun vs σ H Q => ∃ F ss ds, Rel K Z F ss σ H ∧ Reps K F ds vs ∧
  PostM K Z (fun _ _ _ _ => False) (asgs tg ds ss) F H σ fun ss' F' H' => ∀ σ', Rel K Z F' ss' σ' H' → (∀ j, j ∉ tgIxs tg → σ'[j]? = σ[j]?) → Q σ' H'
/-- what is known of the classes -/
def ClsOk (K : PySem.W.Frag) (cl : Nat → Option (Addr × List Str)) (cs : List (Nat × Str × List Str)) : Prop := ∀ p ∈ cs, ∃ C, cl p.1 = some (C, p.2.2) ∧ Cls K C ∧ ∀ f ∈ p.2.2, NoAttr K C f
theorem isFld_ok {K : PySem.W.Frag} {cl : Nat → Option (Addr × List Str)} {St : Stc} (h : ClsOk K cl St.cs) {c k : Nat} {f : Str} (e : isFld St c k f = true) {C : Addr} {ns : List Str} (hc : cl c = some (C, ns)) : ns[k]? = some f ∧ Cls K C ∧ NoAttr K C f := by
  obtain ⟨pr, hm, hp⟩ := List.any_eq_true.mp e
  simp only [Bool.and_eq_true, decide_eq_true_eq] at hp
  obtain ⟨D, h1, h2, h3⟩ := h pr hm
  rw [hp.1, hc] at h1
  cases h1
  exact ⟨hp.2, h2, h3 f (List.mem_of_getElem? hp.2)⟩
theorem Rel.cl {K : PySem.W.Frag} {Z : Z0} {F : Fz} {ss : List S} {σ : L2.St} {H : Hp} (r : Rel K Z F ss σ H) : F.cl = Z.F0.cl := r.ext.le.cl
section
variable {St : Stc} {Z : Z0} {G : Env} {sub : Sub} {k : Nat}
theorem PG.imp {X : Cx} {e : Expr} {t t' : TG} (h : PG X e t) (i : ∀ v σ H Q, t' v σ H Q → t v σ H Q) : PG X e t' := ⟨fun pins s σ H v u Q I r q => h.run pins s σ H v u Q I r (i v σ H Q q)⟩
theorem PGs.imp {X : Cx} {e : List Expr} {t t' : TGs} (h : PGs X e t) (i : ∀ v σ H Q, t' v σ H Q → t v σ H Q) : PGs X e t' := ⟨fun pins s σ H v u Q I r q => h.run pins s σ H v u Q I r (i v σ H Q q)⟩
theorem assignEach_cons {e : Expr} {es : List Expr} {env : PySem.Env} (h : notStar e = true) : assignEach (e :: es) env = (false, assign e env) :: assignEach es env := by
  cases e <;> first | rfl | (simp [notStar] at h)
theorem assignEach_len {sc : Scope} {env : PySem.Env} : ∀ {ts : List Tg} {es : List Expr}, chkTgs St sc ts es = true → (assignEach es env).length = ts.length ∧ (assignEach es env).findIdx? (·.1) = none
  | [], es, h => by
    unfold chkTgs at h
    split at h
    · exact ⟨rfl, rfl⟩
    · cases h
  | t :: ts, es, h => by
    unfold chkTgs at h
    split at h
    · simp only [Bool.and_eq_true] at h
      rw [assignEach_cons h.1.1]
      obtain ⟨a, b⟩ := assignEach_len (env := env) h.2
      refine ⟨by simp [a], ?_⟩
      rw [List.findIdx?_cons]
      simp [b]
    · cases h
theorem asgs_len {K : PySem.W.Frag} : ∀ {ts : List Tg} {ds : List D} {ss : List S} {F : Fz} {H : Hp} {σ : L2.St} {W : WX} {Q : List S → Fz → Hp → Prop}, PostM K Z W (asgs ts ds ss) F H σ Q → ds.length = ts.length
  | [], [], _, _, _, _, _, _, _ => rfl
  | [], _ :: _, _, _, _, _, _, _, h => by unfold asgs at h; exact (show False from h).elim
  | _ :: _, [], _, _, _, _, _, _, h => by unfold asgs at h; exact (show False from h).elim
  | t :: ts, d :: ds, ss, F, H, σ, W, Q, h => by
    unfold asgs at h
    have h2 := PostM.bind h
    unfold PostM at h2
    cases e : asg t d ss F.st with
    | ok s1 st =>
      have h3 : PostM K Z W (asgs ts ds s1) { F with st := st } H σ (fun _ _ _ => True) → ds.length = ts.length := fun q => asgs_len q
      have e2 : (asg t d ss).bind (fun s => asgs ts ds s) F.st = asgs ts ds s1 st := by unfold M.bind; rw [e]
      unfold PostM at h h3
      rw [e2] at h
      have : ds.length = ts.length := h3 (by
        dsimp only
        cases e3 : asgs ts ds s1 st with
        | ok a b => exact fun _ _ _ _ => trivial
        | ex c b =>
          exfalso
          exact asgs_noex e3
        | bad => rw [e3] at h; exact h)
      simp [this]
    | ex c st => exact (asg_noex e).elim
    | bad => rw [e] at h2; exact h2.elim
where
  asg_noex : ∀ {t : Tg} {d : D} {ss : List S} {st st' : Store} {c : Nat}, asg t d ss st = .ex c st' → False
  | .nm i, d, ss, st, st', c, h => by
    unfold asg at h
    by_cases hl : i < ss.length
    · rw [if_pos hl] at h; cases h
    · rw [if_neg hl] at h; cases h
  | .fl i c k, d, ss, st, st', c', h => by
    unfold asg at h
    cases eo : ss[i]? with
    | none => rw [eo] at h; cases h
    | some s =>
      rw [eo] at h
      cases s with
      | val o =>
        have h' : ((setFld o c k d).bind fun _ => M.ok ss) st = .ex c' st' := h
        unfold M.bind at h'
        rcases setFld_inv (d := o) (v := d) (c := c) (k := k) (st := st) with e | ⟨n, fs, _, _, _, e⟩
        · rw [e] at h'; cases h'
        · rw [e] at h'; cases h'
      | emp => cases h
      | own _ => cases h
      | exc _ => cases h
  | .tup ts, d, ss, st, st', c, h => by
    cases d with
    | tup ds => unfold asg at h; exact asgs_noex h
    | lst ds => unfold asg at h; exact asgs_noex h
    | obj n =>
      unfold asg M.get at h
      dsimp only at h
      cases e : st[n]? with
      | none => rw [e] at h; cases h
      | some o =>
        rw [e] at h
        cases o with
        | lst xs => exact asgs_noex h
        | inst _ _ => cases h
        | dic _ => cases h
    | _ => unfold asg at h; cases h
  asgs_noex : ∀ {ts : List Tg} {ds : List D} {ss : List S} {st st' : Store} {c : Nat}, asgs ts ds ss st = .ex c st' → False
  | [], [], ss, st, st', c, h => by unfold asgs at h; cases h
  | [], _ :: _, _, _, _, _, h => by unfold asgs at h; cases h
  | _ :: _, [], _, _, _, _, h => by unfold asgs at h; cases h
  | t :: ts, d :: ds, ss, st, st', c, h => by
    unfold asgs M.bind at h
    cases e : asg t d ss st with
    | ok s1 st1 => rw [e] at h; exact asgs_noex h
    | ex c1 st1 => exact asg_noex e
    | bad => rw [e] at h; cases h
mutual
theorem sndTg : ∀ (tg : Tg) {X : Cx} {sc : Scope} {e : Expr}, X.calm = true → X.N = St.N → X.N.Nodup → ClsOk X.K Z.F0.cl St.cs → (∀ x, loc sc x = true → L2.Loc X.env.scope x ∧ (X.fn x = true ∨ X.env.scope.names.lookup x = some .local)) → chkTg St sc tg e = true → PG X e (gT X.K Z tg)
  | .nm i, X, sc, e, hc, hN, nd, hcs, hf, h => by
    unfold chkTg at h
    split at h
    · rename_i x pos
      simp only [Bool.and_eq_true, decide_eq_true_eq] at h
      have hl := hf x h.2
      refine PG.imp (pg_name (i := i) nd (by rw [hN]; exact h.1) hl.1 hl.2) fun v σ H Q q => ?_
      · obtain ⟨F, ss, d, rel, rep, p⟩ := q
        unfold asg at p
        by_cases hl : i < ss.length
        · rw [if_pos hl] at p
          refine p F H rfl (Ext.refl rel.ok) _ (rel.set rep) fun j nj => ?_
          rw [List.getElem?_set_ne]
          intro z; subst z
          exact nj (by simp [tgIx])
        · rw [if_neg hl] at p; exact (show False from p).elim
    · cases h
  | .fl i c k, X, sc, e, hc, hN, nd, hcs, hf, h => by
    unfold chkTg at h
    split at h
    · rename_i x px f pos
      simp only [Bool.and_eq_true, decide_eq_true_eq] at h
      obtain ⟨⟨⟨h1, h2⟩, h3⟩, h4⟩ := h
      refine PG.imp (pg_fld (pe_var (i := i) (by rw [hN]; exact h1) (Loc.vis (hf x h2).1) (okName_1 h3) (okName_2 h3))) fun v σ H Q q => ?_
      obtain ⟨F, ss, d, rel, rep, p⟩ := q
      unfold asg at p
      cases ho : ss[i]? with
      | none => rw [ho] at p; exact (show False from p).elim
      | some s =>
      rw [ho] at p
      cases s with
      | val o =>
        obtain ⟨y, q1, q2⟩ := rel.val i _ ho
        obtain ⟨a, C, ns, dx, kvs, rfl, z1, z2, z3, z4⟩ := setFld_ok rel.ok q2 rep (PostM.bind p)
        rw [rel.cl] at z1
        obtain ⟨y1, y2, y3⟩ := isFld_ok hcs h4 z1
        obtain ⟨F', x', p'⟩ := z4 f y1
        exact ⟨.ref a, q1, a, C, dx, kvs, rfl, z2, y2, y3, z3, p' F' _ rfl (Ext.refl x'.ok) σ (rel.grow x') fun _ _ => rfl⟩
      | emp => exact (show False from p).elim
      | own _ => exact (show False from p).elim
      | exc _ => exact (show False from p).elim
    · cases h
  | .tup ts, X, sc, e, hc, hN, nd, hcs, hf, h => by
    unfold chkTg at h
    split at h
    · rename_i es kk pos
      obtain ⟨hl, hs⟩ := assignEach_len (env := X.env) h
      have hp := sndTgs ts hc hN nd hcs hf h
      have A := pg_tup (k := kk) (pos := pos) hc hp hl hs
      have B := pg_lst (k := kk) (pos := pos) hc hp hl hs
      refine ⟨fun pins s σ H v u Q I r q => ?_⟩
      obtain ⟨F, ss, d, rel, rep, p⟩ := q
      cases d with
      | tup ds =>
        unfold asg at p
        unfold Rep at rep
        obtain ⟨a, vs, rfl, q, rs⟩ := rep
        refine A.run pins s σ H _ u Q I r ⟨a, vs, rfl, Same.seqT rel.ok.sub q, ?_, F, ss, ds, rel, rs, p.mono fun ss' F' H' _ _ k σ' r' n => k σ' r' (by simpa [tgIx] using n)⟩
        rw [← rs.length]
        exact asgs_len p
      | lst ds =>
        unfold asg at p
        unfold Rep at rep
        obtain ⟨a, vs, rfl, q, rs⟩ := rep
        refine B.run pins s σ H _ u Q I r ⟨a, vs, rfl, SqL.of (rel.ok.sub _ _ q), ?_, F, ss, ds, rel, rs, p.mono fun ss' F' H' _ _ k σ' r' n => k σ' r' (by simpa [tgIx] using n)⟩
        rw [← rs.length]
        exact asgs_len p
      | obj n =>
        cases e : F.st[n]? with
        | none => exact (PostM.isBad (f := fun s => M.ok s) (m := asg (.tup ts) (.obj n) ss) (by unfold asg M.get; dsimp only; rw [e]; rfl) (show PostM X.K Z _ _ F H σ _ from (by
            have : (asg (.tup ts) (.obj n) ss).bind (fun s => M.ok s) = asg (.tup ts) (.obj n) ss := by
              funext st; unfold M.bind; cases asg (.tup ts) (.obj n) ss st <;> rfl
            rw [this]; exact p))).elim
        | some o =>
          cases o with
          | lst ds =>
            have ee : asg (.tup ts) (.obj n) ss F.st = asgs ts ds ss F.st := by unfold asg M.get; dsimp only; rw [e]
            have p' : PostM X.K Z (fun _ _ _ _ => False) (asgs ts ds ss) F H σ fun ss' F' H' => ∀ σ', Rel X.K Z F' ss' σ' H' → (∀ j, j ∉ tgIx (.tup ts) → σ'[j]? = σ[j]?) → Q σ' H' := by
              unfold PostM at p ⊢; rw [ee] at p; exact p
            obtain ⟨a, vs, rfl, ha, h3, rs⟩ := rel.ok.list e rep
            refine B.run pins s σ H _ u Q I r ⟨a, vs, rfl, SqL.of h3, ?_, F, ss, ds, rel, rs, p'.mono fun ss' F' H' _ _ k σ' r' n => k σ' r' (by simpa [tgIx] using n)⟩
            rw [← rs.length]
            exact asgs_len p'
          | inst c fs =>
            have ee : asg (.tup ts) (.obj n) ss F.st = .bad := by unfold asg M.get; dsimp only; rw [e]; rfl
            unfold PostM at p; rw [ee] at p; exact p.elim
          | dic kvs =>
            have ee : asg (.tup ts) (.obj n) ss F.st = .bad := by unfold asg M.get; dsimp only; rw [e]; rfl
            unfold PostM at p; rw [ee] at p; exact p.elim
      | non => unfold asg at p; exact (show False from p).elim
      | bl _ => unfold asg at p; exact (show False from p).elim
      | int _ => unfold asg at p; exact (show False from p).elim
      | str _ => unfold asg at p; exact (show False from p).elim
      | scr _ => unfold asg at p; exact (show False from p).elim
    · cases h
theorem sndTgs : ∀ (ts : List Tg) {X : Cx} {sc : Scope} {es : List Expr}, X.calm = true → X.N = St.N → X.N.Nodup → ClsOk X.K Z.F0.cl St.cs → (∀ x, loc sc x = true → L2.Loc X.env.scope x ∧ (X.fn x = true ∨ X.env.scope.names.lookup x = some .local)) → chkTgs St sc ts es = true → PGs X es (gTs X.K Z ts)
  | [], X, sc, es, hc, hN, nd, hcs, hf, h => by
    unfold chkTgs at h
    split at h
    · refine PGs.imp pgs_nil fun vs σ H Q q => ?_
      obtain ⟨F, ss, ds, rel, reps, p⟩ := q
      cases ds with
      | nil =>
        unfold asgs at p
        unfold Reps at reps
        exact ⟨reps, p F H rfl (Ext.refl rel.ok) σ rel fun _ _ => rfl⟩
      | cons d ds => unfold asgs at p; exact (show False from p).elim
    · cases h
  | t :: ts, X, sc, es, hc, hN, nd, hcs, hf, h => by
    unfold chkTgs at h
    split at h
    · rename_i e es
      simp only [Bool.and_eq_true] at h
      have h1 := sndTg t hc hN nd hcs hf h.1.2
      have h2 := sndTgs ts hc hN nd hcs hf h.2
      refine PGs.imp (pgs_cons h1 h2 (by rw [assignEach_cons h.1.1]; rfl)) fun vs σ H Q q => ?_
      obtain ⟨F, ss, ds, rel, reps, p⟩ := q
      cases ds with
      | nil => unfold asgs at p; exact (show False from p).elim
      | cons d ds =>
        unfold asgs at p
        unfold Reps at reps
        obtain ⟨v, r, rfl, ra, rb⟩ := reps
        refine ⟨v, r, rfl, F, ss, d, rel, ra, (PostM.bind p).mono fun s1 F1 H1 e1 x1 p1 σ1 rel1 n1 => ⟨F1, s1, ds, rel1, Reps.mono x1.le _ _ rb, ?_⟩⟩
        have p1' : PostM X.K Z (fun _ _ _ _ => False) (asgs ts ds s1) F1 H1 σ1 fun ss' F' H' => ∀ σ', Rel X.K Z F' ss' σ' H' → (∀ j, j ∉ tgIxs (t :: ts) → σ'[j]? = σ[j]?) → Q σ' H' := p1
        refine p1'.mono fun ss' F' H' _ _ k σ2 rel2 n2 => k σ2 rel2 fun j nj => ?_
        have nj' : j ∉ tgIx t ++ tgIxs ts := by simpa [tgIxs] using nj
        rw [n2 j (fun z => nj' (List.mem_append_right _ z)), n1 j (fun z => nj' (List.mem_append_left _ z))]
    · cases h
end
end
end EV

set_option Elab.async false
set_option linter.all false
set_option autoImplicit false
set_option maxRecDepth 100000
set_option maxHeartbeats 8000000
/-! EwB6: walks; comprehensions. -/
namespace EV
open PySem PySem.Spec PyProof.Rows L2

theorem bind_okD {α β : Type} {m : M α} {f : α → M β} {st st' : Store} {b : β} (h : (m.bind f) st = .ok b st') : ∃ a st1, m st = .ok a st1 ∧ f a st1 = .ok b st' := by
  unfold M.bind at h
  cases e : m st with
  | ok a s => rw [e] at h; exact ⟨a, s, rfl, h⟩
  | ex c s => rw [e] at h; cases h
  | bad => rw [e] at h; cases h
theorem PostM.of_ok {K : PySem.W.Frag} {Z : Z0} {W : WX} {α : Type} {m : M α} {F : Fz} {H : Hp} {σ : L2.St} {Q : α → Fz → Hp → Prop} {a : α} {st : Store} (e : m F.st = .ok a st) (h : ∀ F' H', F'.st = st → Ext K F H F' H' → Q a F' H') : PostM K Z W m F H σ Q := by
  unfold PostM; rw [e]; exact h
/-- an iterator over data, while G stands -/
def WalkD (K : PySem.W.Frag) (G : Fz → Hp → Prop) (J : It) (xs : List D) : Prop :=
  ∀ (i : Nat) F H, Ok K F H → G F H → (i < xs.length → J.go i H) ∧ (i = xs.length → J.stop i H) ∧ (i < xs.length → ∀ x H', J.yld i H x H' → ∃ d F', xs[i]? = some d ∧ F'.st = F.st ∧ Ext K F H F' H' ∧ Rep K F' d x)
def tI (K : PySem.W.Frag) (Z : Z0) (W : WX) (f : List S → M Its) : TI := fun σ H R => ∃ F ss, Rel K Z F ss σ H ∧ PostM K Z W (f ss) F H σ fun its F' H' =>
  ∀ J, WalkD K (fun F2 H2 => Ext K F' H' F2 H2 ∧ its.gd.ok F2.st) J its.ds → (its.fx = true → WalkD K (fun F2 H2 => Le F' F2 ∧ its.gd.ok F2.st) J its.ds) → R J H'
section
variable {K : PySem.W.Frag}
theorem WalkD.mono {G G' : Fz → Hp → Prop} {J : It} {xs : List D} (h : WalkD K G J xs) (s : ∀ F H, Ok K F H → G' F H → G F H) : WalkD K G' J xs := fun i F H k g => h i F H k (s F H k g)
theorem walkD_list {G : Fz → Hp → Prop} {a : Addr} {xs : List D} (h : ∀ F H, Ok K F H → G F H → ∃ vs, SqL K H a vs ∧ Reps K F xs vs) : WalkD K G (Itl K a) xs := fun i F H k g => by
  obtain ⟨vs, h1, h2⟩ := h F H k g
  have hl := h2.length
  refine ⟨fun hi => ⟨vs, vs[i]'(hl ▸ hi), h1, List.getElem?_eq_getElem (hl ▸ hi)⟩, fun hi => ⟨vs, h1, by omega⟩, fun hi x H' y => ?_⟩
  obtain ⟨rfl, e⟩ := y
  obtain ⟨v, q1, q2⟩ := h2.get (List.getElem?_eq_getElem hi)
  rw [e vs h1] at q1
  cases q1
  exact ⟨xs[i], F, List.getElem?_eq_getElem hi, rfl, Ext.refl k, q2⟩
theorem walkD_tup {G : Fz → Hp → Prop} {a : Addr} {xs : List D} (h : ∀ F H, Ok K F H → G F H → ∃ vs, SqT K H a vs ∧ Reps K F xs vs) : WalkD K G (Itt K a) xs := fun i F H k g => by
  obtain ⟨vs, h1, h2⟩ := h F H k g
  have hl := h2.length
  refine ⟨fun hi => ⟨vs, vs[i]'(hl ▸ hi), h1, List.getElem?_eq_getElem (hl ▸ hi)⟩, fun hi => ⟨vs, h1, by omega⟩, fun hi x H' y => ?_⟩
  obtain ⟨rfl, e⟩ := y
  obtain ⟨v, q1, q2⟩ := h2.get (List.getElem?_eq_getElem hi)
  rw [e vs h1] at q1
  cases q1
  exact ⟨xs[i], F, List.getElem?_eq_getElem hi, rfl, Ext.refl k, q2⟩
theorem walkD_rng {G : Fz → Hp → Prop} {lo hi : Int} : WalkD K G (Itr lo (hi - lo).toNat) (rngL lo hi) := fun i F H k g => by
  have hl : (rngL lo hi).length = (hi - lo).toNat := by unfold rngL; rw [List.length_map, List.length_range]
  rw [hl]
  refine ⟨fun h => h, fun h => Nat.le_of_eq h.symm, fun h x H' y => ?_⟩
  obtain ⟨rfl, rfl⟩ := y
  refine ⟨.int (lo + i), F, ?_, rfl, Ext.refl k, repInt⟩
  unfold rngL
  rw [List.getElem?_map, List.getElem?_range h]
  rfl
theorem walkD_str {G : Fz → Hp → Prop} {z : Str} : WalkD K G (L2.Its z) (z.cps.toList.map fun c => D.str ⟨#[c]⟩) := fun i F H k g => by
  rw [List.length_map]
  refine ⟨fun h => show i < z.cps.size by simpa using h, fun h => by subst h; simp [L2.Its], fun h x H' y => ?_⟩
  obtain ⟨rfl, c, e, rfl⟩ := y
  refine ⟨.str ⟨#[c]⟩, F, ?_, rfl, Ext.refl k, repStr⟩
  rw [List.getElem?_map]
  have : z.cps.toList[i]? = some c := by simpa using e
  rw [this]; rfl
theorem pair_step {F3 : Fz} {H : Hp} {T : Addr} {x y : V} {d e : D} (k : Ok K F3 H) (n : H T = none) (h1 : Rep K F3 d x) (h2 : Rep K F3 e y) : ∃ F4, F4.st = F3.st ∧ Ext K F3 H F4 (upd H T (.tup [x, y])) ∧ Rep K F4 (.tup [d, e]) (.ref T) := by
  refine ⟨F3.add T (.tup [x, y]), rfl, Ext.tup k n _, ?_⟩
  unfold Rep
  exact ⟨T, [x, y], rfl, SqT.of (show upd F3.h T _ T = _ from upd_same), Reps.mono (Le.add (k.free n).1) _ _ (Reps.cons h1 (Reps.cons h2 Reps.nil))⟩
theorem enumL_len : ∀ (n : Nat) (xs : List D), (enumL n xs).length = xs.length
  | _, [] => rfl
  | n, x :: xs => by simp [enumL, enumL_len (n + 1) xs]
theorem enumL_get : ∀ (n : Nat) (xs : List D) (i : Nat), (enumL n xs)[i]? = xs[i]?.map fun x => .tup [.int ((n + i : Nat) : Int), x]
  | _, [], i => by simp [enumL]
  | n, x :: xs, 0 => by simp [enumL]
  | n, x :: xs, i + 1 => by
    rw [enumL, List.getElem?_cons_succ, List.getElem?_cons_succ, enumL_get (n + 1) xs i]
    have e : n + 1 + i = n + (i + 1) := by omega
    rw [e]
theorem walkD_enum {G : Fz → Hp → Prop} {a : Addr} {xs : List D} (h : ∀ F H, Ok K F H → G F H → ∃ vs, SqL K H a vs ∧ Reps K F xs vs) : WalkD K G (Ite K a) (enumL 0 xs) := fun i F H k g => by
  obtain ⟨vs, h1, h2⟩ := h F H k g
  have hl := h2.length
  rw [enumL_len]
  refine ⟨fun hi => ⟨vs, vs[i]'(hl ▸ hi), h1, List.getElem?_eq_getElem (hl ▸ hi)⟩, fun hi => ⟨vs, h1, by omega⟩, fun hi x H' y => ?_⟩
  obtain ⟨T, x2, rfl, n, rfl, e⟩ := y
  obtain ⟨v, q1, q2⟩ := h2.get (List.getElem?_eq_getElem hi)
  rw [e vs h1] at q1
  cases q1
  obtain ⟨F4, h3, h4, h5⟩ := pair_step (d := .int (i : Nat)) k n repInt q2
  refine ⟨_, F4, ?_, h3, h4, h5⟩
  rw [enumL_get, List.getElem?_eq_getElem hi, Nat.zero_add]
  rfl
theorem zipL_len (xs ys : List D) : (zipL xs ys).length = min xs.length ys.length := by simp [zipL]
theorem zipL_get {xs ys : List D} {i : Nat} (h1 : i < xs.length) (h2 : i < ys.length) : (zipL xs ys)[i]? = some (.tup [xs[i], ys[i]]) := by
  unfold zipL
  rw [List.getElem?_zipWith, List.getElem?_eq_getElem h1, List.getElem?_eq_getElem h2]
theorem walkD_zipL {G : Fz → Hp → Prop} {a b : Addr} {xs ys : List D} (h : ∀ F H, Ok K F H → G F H → (∃ vs, SqL K H a vs ∧ Reps K F xs vs) ∧ ∃ vs, SqL K H b vs ∧ Reps K F ys vs) : WalkD K G (Itz K a b) (zipL xs ys) := fun i F H k g => by
  obtain ⟨⟨us, h1, h2⟩, vs, h3, h4⟩ := h F H k g
  have l1 := h2.length
  have l2 := h4.length
  rw [zipL_len]
  refine ⟨fun hi => ⟨us, vs, us[i]'(by omega), vs[i]'(by omega), h1, h3, List.getElem?_eq_getElem _, List.getElem?_eq_getElem _⟩, fun hi => ⟨us, vs, h1, h3, by omega⟩, fun hi x H' y => ?_⟩
  obtain ⟨T, x1, x2, rfl, n, rfl, e1, e2⟩ := y
  have hx : i < xs.length := by omega
  have hy : i < ys.length := by omega
  obtain ⟨v, q1, q2⟩ := h2.get (List.getElem?_eq_getElem hx)
  obtain ⟨w, q3, q4⟩ := h4.get (List.getElem?_eq_getElem hy)
  rw [e1 us h1] at q1; cases q1
  rw [e2 vs h3] at q3; cases q3
  obtain ⟨F4, h5, h6, h7⟩ := pair_step k n q2 q4
  exact ⟨_, F4, zipL_get hx hy, h5, h6, h7⟩
theorem walkD_zipT {G : Fz → Hp → Prop} {a b : Addr} {xs ys : List D} (h : ∀ F H, Ok K F H → G F H → (∃ vs, SqT K H a vs ∧ Reps K F xs vs) ∧ ∃ vs, SqT K H b vs ∧ Reps K F ys vs) : WalkD K G (RZ.ItzT K a b) (zipL xs ys) := fun i F H k g => by
  obtain ⟨⟨us, h1, h2⟩, vs, h3, h4⟩ := h F H k g
  have l1 := h2.length
  have l2 := h4.length
  rw [zipL_len]
  refine ⟨fun hi => ⟨us, vs, us[i]'(by omega), vs[i]'(by omega), h1, h3, List.getElem?_eq_getElem _, List.getElem?_eq_getElem _⟩, fun hi => ⟨us, vs, h1, h3, by omega⟩, fun hi x H' y => ?_⟩
  obtain ⟨T, x1, x2, rfl, n, rfl, e1, e2⟩ := y
  have hx : i < xs.length := by omega
  have hy : i < ys.length := by omega
  obtain ⟨v, q1, q2⟩ := h2.get (List.getElem?_eq_getElem hx)
  obtain ⟨w, q3, q4⟩ := h4.get (List.getElem?_eq_getElem hy)
  rw [e1 us h1] at q1; cases q1
  rw [e2 vs h3] at q3; cases q3
  obtain ⟨F4, h5, h6, h7⟩ := pair_step k n q2 q4
  exact ⟨_, F4, zipL_get hx hy, h5, h6, h7⟩
end

def plainTest : Expr → Bool
  | .UnaryOp .Not _ _ => false
  | .BoolOp _ _ _ => false
  | .IfExp _ _ _ _ => false
  | .Compare _ _ _ _ => false
  | _ => true
theorem plainTest_of {e : Expr} {env : PySem.Env} (h : plainTest e = true) : ∀ whole, isTrue e env whole = (do let v ← whole; standAt e.pos; holding [v] (truthy v)) := by
  intro whole
  cases e with
  | UnaryOp op a p => cases op <;> first | rfl | (simp [plainTest] at h)
  | BoolOp _ _ _ => simp [plainTest] at h
  | IfExp _ _ _ _ => simp [plainTest] at h
  | Compare _ _ _ _ => simp [plainTest] at h
  | _ => rfl
theorem notSet_of {e : Expr} {env : PySem.Env} (h : notSet e = true) : ∀ x, foldedSetIterable e env x = pure x := by
  intro x
  cases e <;> first | rfl | (simp [notSet] at h)
theorem loc_relS {sc scope : Scope} {y : Str} (h : loc scope y = true) : L2.Loc (relS scope sc) y ∧ ((scope.names.lookup y == some .cell) = true ∨ (relS scope sc).names.lookup y = some .local) := by
  rcases loc_of h with z | z
  · have e : (relS scope sc).names.lookup y = some .local := lookup_relS_keep (sc := sc) (by decide) z
    exact ⟨.inl e, .inr e⟩
  · have e : (relS scope sc).names.lookup y = some .cell := lookup_relS_keep (sc := sc) (by decide) z
    exact ⟨.inr e, .inl (by rw [z]; rfl)⟩
abbrev W0 : WX := fun _ _ _ _ => False
section
variable {St : Stc} {Z : Z0} {G : Env} {sub : Sub} {k : Nat} {calm : Bool}
theorem Good.blk {X : Cx} {W : WX} (g : Good X St Z W G sub k calm) (hx : Z.hx = none) (s : Shared) (H : Hp) (scope : Scope) (cenv : PySem.Env) (fp : List Addr) : Good (X.blk s H scope cenv fp) St Z W0 G sub k calm :=
  ⟨g.N, g.nd, takes0, g.calm, g.un, g.fn, g.cs, g.blt, g.exn, g.subx, (fun a c j z => by rw [hx] at z; cases z), g.gl⟩
theorem lcG_cons {gd : Gd} {f : D → M (Option D)} {x : D} {r : List D} {ys : List D} {st st' : Store} (h : lcG gd f (x :: r) st = .ok ys st') : gd.ok st ∧ ∃ o rest st1, f x st = .ok o st1 ∧ lcG gd f r st1 = .ok rest st' ∧ ys = (match o with | some y => y :: rest | none => rest) := by
  unfold lcG at h
  by_cases hg : gd.ok st
  · rw [if_pos hg] at h
    obtain ⟨o, st1, h1, h2⟩ := bind_okD h
    obtain ⟨rest, st2, h3, h4⟩ := bind_okD h2
    cases o with
    | none =>
      have h4' : (Out.ok rest st2 : Out (List D)) = .ok ys st' := h4
      injection h4' with e1 e2
      subst e2
      exact ⟨hg, none, rest, st1, h1, h3, e1.symm⟩
    | some y =>
      have h4' : (Out.ok (y :: rest) st2 : Out (List D)) = .ok ys st' := h4
      injection h4' with e1 e2
      subst e2
      exact ⟨hg, some y, rest, st1, h1, h3, e1.symm⟩
  · rw [if_neg hg] at h; cases h
theorem lcG_nil {gd : Gd} {f : D → M (Option D)} {ys : List D} {st st' : Store} (h : lcG gd f [] st = .ok ys st') : gd.ok st ∧ ys = [] ∧ st' = st := by
  unfold lcG at h
  by_cases hg : gd.ok st
  · rw [if_pos hg] at h
    injection h with e1 e2
    exact ⟨hg, e1.symm, e2.symm⟩
  · rw [if_neg hg] at h; cases h
theorem lcG_gd {gd : Gd} {f : D → M (Option D)} : ∀ {xs ys : List D} {st st' : Store}, lcG gd f xs st = .ok ys st' → gd.ok st
  | [], _, _, _, h => (lcG_nil h).1
  | _ :: _, _, _, _, h => (lcG_cons h).1
theorem calm_ok {K : PySem.W.Frag} {W : WX} {α β : Type} {m : M α} {f : α → M β} {F : Fz} {H : Hp} {σ : L2.St} {Q : β → Fz → Hp → Prop} (h : PostM K Z W ((M.calm m).bind f) F H σ Q) : ∃ a st, m F.st = .ok a st ∧ ∀ F' H', F'.st = st → Ext K F H F' H' → PostM K Z W (f a) F' H' σ Q := by
  have h2 := PostM.bind h
  unfold PostM M.calm at h2
  cases e : m F.st with
  | ok a st => rw [e] at h2; exact ⟨a, st, rfl, h2⟩
  | ex c st => rw [e] at h2; exact h2.elim
  | bad => rw [e] at h2; exact h2.elim
theorem lcG_len {gd : Gd} {f : D → M (Option D)} : ∀ {xs ys : List D} {st st' : Store}, lcG gd f xs st = .ok ys st' → ys.length ≤ xs.length
  | [], ys, st, st', h => by rw [(lcG_nil h).2.1]; exact Nat.le_refl _
  | x :: xs, ys, st, st', h => by
    obtain ⟨_, o, rest, st1, h1, h2, rfl⟩ := lcG_cons h
    have := lcG_len h2
    cases o <;> simp <;> omega
/-- the comprehension, from its parts -/
theorem lc_snd {X : Cx} {W : WX} {vs : List Nat} {tg : Tg} {c : Option E} {x : E} {fi : List S → M Its} (htg : ((tgIx tg).all fun i => decide (i ∈ vs)) = true)
    {σ : L2.St} {H : Hp} {Q : VK} (h : tE X.K Z W (fun ss => (fi ss).bind fun its => guardM (decide (its.ds.length ≤ line)) ((M.calm (lcG its.gd (fun d => (asg tg d (wipe ss vs)).bind fun ss' => (evC G sub c ss').bind fun b => if b then (evE G sub x ss').bind fun r => (r.fix).bind fun y => .ok (some y) else .ok none) its.ds)).bind fun ys => .ok (.own ys))) σ H Q) :
    tLc (tI X.K Z W fi) (gT X.K Z tg) (tB X.K Z W0 (evC G sub c)) (tE X.K Z W0 (evE G sub x)) vs σ H Q := by
  obtain ⟨F, ss, rel, p⟩ := h
  refine ⟨F, ss, rel, (PostE.bind p).mono fun its F1 H1 e1 x1 p1 J wk _ D nD => ?_⟩
  obtain ⟨hlen, p1⟩ := guardM_ok (P := fun m => PostE X.K Z W m F1 H1 σ Q) p1 (fun z => z)
  obtain ⟨ys, stE, hys, p2⟩ := calm_ok p1
  have relW : Rel X.K Z F1 (EV.wipe ss vs) (L2.wipe σ vs) H1 := (rel.grow x1).wipe vs
  have fD := x1.ok.free nD
  have hl : its.ds.length ≤ line := of_decide_eq_true hlen
  generalize hf : (fun d => (asg tg d (wipe ss vs)).bind fun ss' => (evC G sub c ss').bind fun b => if b then (evE G sub x ss').bind fun r => (r.fix).bind fun y => M.ok (some y) else M.ok none) = f at hys
  let P : Nat → Hp → Prop := fun i H => ∃ F3 acc ws rest, Ext X.K F1 H1 F3 H ∧ H D = some (.lst ws) ∧ F3.fr D ∧ Reps X.K F3 acc ws ∧ acc.length ≤ i ∧ ys = acc ++ rest ∧ lcG its.gd f (its.ds.drop i) F3.st = .ok rest stE
  refine ⟨fun i m H => m = its.ds.length - i ∧ i ≤ its.ds.length ∧ P i H, ⟨its.ds.length, by simp, Nat.zero_le _, F1, [], [], ys, (Ext.refl x1.ok).write fD nD, upd_same, fD, Reps.nil, Nat.zero_le _, rfl, by simpa using hys⟩, ?_⟩
  rintro i m H3 ⟨rfl, hi, F3, acc, ws, rest, h1, h2, h3, h4, h5, h6, h7⟩
  have gd3 := lcG_gd h7
  obtain ⟨w1, w2, w3⟩ := wk i F3 H3 h1.ok ⟨h1, gd3⟩
  by_cases hlt : i < its.ds.length
  · refine .inr ⟨w1 hlt, P (i + 1), fun H' p' => ⟨its.ds.length - (i + 1), by omega, rfl, hlt, p'⟩, fun v H4 y => ?_⟩
    obtain ⟨d, F4, hd, hst, h8, h9⟩ := w3 hlt v H4 y
    have hdrop : its.ds.drop i = d :: its.ds.drop (i + 1) := by
      rw [List.drop_eq_getElem_cons hlt]
      rw [List.getElem?_eq_getElem hlt] at hd
      cases hd; rfl
    rw [hdrop] at h7
    obtain ⟨_, o, rest', st1, q1, q2, q3⟩ := lcG_cons h7
    have x4 : Ext X.K F1 H1 F4 H4 := h1.trans h8
    have D4 : H4 D = some (.lst ws) := h8.sh _ _ h3 h2
    have fD4 : F4.fr D := h8.new _ _ h3 h2
    subst hf
    rw [← hst] at q1
    obtain ⟨ss', stA, a1, q1⟩ := bind_okD q1
    refine ⟨F4, wipe ss vs, d, relW.grow x4, h9, PostM.of_ok a1 fun F5 H5 hs5 x5 σ2 rel2 n2 => ⟨?_, F5, ss', rel2, ?_⟩⟩
    · have hv : ∀ (vs : List Nat) (σ : L2.St) (j : Nat), j ∈ vs → (L2.wipe σ vs)[j]? = if j < σ.length then some none else none := by
        intro vs
        induction vs with
        | nil => intro σ j h; cases h
        | cons v vs ih =>
          intro σ j h
          unfold L2.wipe
          by_cases e : v = j
          · subst e
            by_cases hl : v < σ.length
            · rw [List.getElem?_set_self (by rw [wipe_length]; exact hl), if_pos hl]
            · rw [if_neg hl, List.getElem?_eq_none (by rw [List.length_set, wipe_length]; omega)]
          · rw [List.getElem?_set_ne e]
            exact ih σ j (by
              rcases List.mem_cons.mp h with z | z
              · exact absurd z.symm e
              · exact z)
      have lw : σ2.length = σ.length := by
        rw [← rel2.len, asg_lenS a1, relW.len, wipe_length]
      apply List.ext_getElem?
      intro j
      by_cases hj : j ∈ vs
      · rw [hv vs σ2 j hj, hv vs σ j hj, lw]
      · rw [wipe_out hj, wipe_out hj]
        have nj : j ∉ tgIx tg := fun z => hj (of_decide_eq_true (List.all_eq_true.mp htg j z))
        rw [n2 j nj, wipe_out hj]
    · rw [← hs5] at q1
      obtain ⟨b, stB, b1, q1⟩ := bind_okD q1
      refine PostM.of_ok b1 fun F6 H6 hs6 x6 => ?_
      have x16 := (x4.trans x5).trans x6
      have x36 := (h8.trans x5).trans x6
      have D6 := x36.sh _ _ h3 h2
      have fD6 := x36.new _ _ h3 h2
      have R6 := Reps.mono x36.le _ _ h4
      cases b with
      | false =>
        show P (i + 1) H6
        simp only [Bool.false_eq_true, if_false] at q1
        have q1' : (Out.ok none stB : Out (Option EV.D)) = .ok o st1 := q1
        injection q1' with e1 e2
        subst e1; subst e2
        subst q3
        exact ⟨F6, acc, ws, _, x16, D6, fD6, R6, by omega, h6, by rw [hs6]; exact q2⟩
      | true =>
        show tE X.K Z W0 (evE G sub x) σ2 H6 _
        simp only [if_true] at q1
        rw [← hs6] at q1
        obtain ⟨r, stC, c1, q1⟩ := bind_okD q1
        refine ⟨F6, ss', rel2.grow x6, PostM.of_ok c1 fun F7 H7 hs7 x7 z r7 => ?_⟩
        obtain ⟨yv, stD, d1, q1⟩ := bind_okD q1
        have q1' : (Out.ok (some yv) stD : Out (Option EV.D)) = .ok o st1 := q1
        injection q1' with e1 e2
        subst e1; subst e2
        dsimp only at q3
        subst q3
        have hd : stD = stC := (fix_inv d1).1
        obtain ⟨F8, hs8, x8, r8, le8⟩ := RepR.fixE x7 r7 d1
        have x18 := x16.trans x8
        have x38 := x36.trans x8
        have D7 := x38.sh _ _ h3 h2
        have fD8 := x38.new _ _ h3 h2
        have R8 := Reps.mono x38.le _ _ h4
        refine ⟨ws, D7, ?_, F8, acc ++ [yv], ws ++ [z], rest', x18.write fD8 nD, upd_same, fD8, Reps.append R8 (Reps.cons r8 Reps.nil), ?_, ?_, by rw [hs8, hs7, ← hd]; exact q2⟩
        · rw [← R8.length, ← line_eq]
          have hle := lcG_len hys
          rw [h6] at hle
          simp at hle
          omega
        · simp; omega
        · rw [h6]; simp
  · have e : i = its.ds.length := by omega
    subst e
    refine .inl ⟨w2 rfl, ?_⟩
    rw [List.drop_length] at h7
    obtain ⟨_, e1, e2⟩ := lcG_nil h7
    subst e1
    rw [List.append_nil] at h6
    subst h6
    have p3 := p2 F3 H3 e2.symm h1
    have p4 : ∀ v, RepR X.K H1 F3 H3 (.own ys) v → Q v H3 := p3 F3 H3 rfl (Ext.refl h1.ok)
    exact p4 (.ref D) ⟨D, ws, rfl, h2, h3, nD, h4⟩
where
  asg_lenS : ∀ {tg : Tg} {d : D} {ss ss' : List S} {st st' : Store}, asg tg d ss st = .ok ss' st' → ss'.length = ss.length
  | .nm i, d, ss, ss', st, st', h => by
    unfold asg at h
    by_cases hl : i < ss.length
    · rw [if_pos hl] at h
      injection h with e1 e2
      rw [← e1]; simp
    · rw [if_neg hl] at h; cases h
  | .fl i c k, d, ss, ss', st, st', h => by
    unfold asg at h
    cases eo : ss[i]? with
    | none => rw [eo] at h; cases h
    | some s =>
      rw [eo] at h
      cases s with
      | val o =>
        have h' : ((setFld o c k d).bind fun _ => M.ok ss) st = .ok ss' st' := h
        obtain ⟨_, st1, _, h2⟩ := bind_okD h'
        injection h2 with e1 e2
        rw [e1]
      | emp => cases h
      | own _ => cases h
      | exc _ => cases h
  | .tup ts, d, ss, ss', st, st', h => by
    cases d with
    | tup ds => unfold asg at h; exact asgs_lenS h
    | lst ds => unfold asg at h; exact asgs_lenS h
    | obj n =>
      unfold asg M.get at h
      dsimp only at h
      cases e : st[n]? with
      | none => rw [e] at h; cases h
      | some o =>
        rw [e] at h
        cases o with
        | lst xs => exact asgs_lenS h
        | inst _ _ => cases h
        | dic _ => cases h
    | _ => unfold asg at h; cases h
  asgs_lenS : ∀ {ts : List Tg} {ds : List D} {ss ss' : List S} {st st' : Store}, asgs ts ds ss st = .ok ss' st' → ss'.length = ss.length
  | [], [], ss, ss', st, st', h => by
    unfold asgs at h
    injection h with e1 e2
    rw [e1]
  | [], _ :: _, _, _, _, _, h => by unfold asgs at h; cases h
  | _ :: _, [], _, _, _, _, h => by unfold asgs at h; cases h
  | t :: ts, d :: ds, ss, ss', st, st', h => by
    unfold asgs at h
    obtain ⟨s1, st1, h1, h2⟩ := bind_okD h
    rw [asgs_lenS h2, asg_lenS h1]
end
end EV

set_option Elab.async false
set_option linter.all false
set_option autoImplicit false
set_option maxRecDepth 100000
set_option maxHeartbeats 16000000
/-! EwB7: expressions are what the evaluator says. -/
namespace EV
open PySem PySem.Spec PyProof.Rows L2
section
variable {X : Cx} {CX : CXT} {k : Nat} {f C : Addr} {fd : FuncData} {ps : List Str} {sp : Sp} {E : L2.St → XK} {x m : Str} {p pos apos : Pos} {e o : Expr} {es : List Expr} {ta : TE} {t : TA}
theorem eval_meth {args : List Expr} (hb : notSup o = true) (hl : (apos.endLine == pos.line) = true) (hs : args.all notStar = true) (hn : args.length < 20) :
    eval (.Call (.Attribute o m apos) args [] pos) X.env = (do
      let ov ← eval o X.env
      standAt apos.atName
      let (f, first) ← holding [ov] (getMethod ov m (do return (← importBound o X.env).getD true))
      callWith pos f first (backTo pos (starEach args X.env)) (backToKw pos (keywordEach [] X.env))) := by
  rw [arm_eval_Call, notSup_of hb]
  have hform : methodCallForm (args.length + ([] : List Keyword).length) (backTo pos (starEach args X.env)) (backToKw pos (keywordEach [] X.env)) = true := by
    unfold methodCallForm
    have h1 : (backTo pos (starEach args X.env)).all (fun x => !x.1) = true := by
      have q := starEach_any (env := X.env) (pos := pos) hs
      rw [List.all_eq_true]
      intro z hz
      cases e : z.1 with
      | false => rfl
      | true =>
        exfalso
        have : (backTo pos (starEach args X.env)).any (·.1) = true := List.any_eq_true.mpr ⟨z, hz, e⟩
        rw [q] at this; cases this
    have h2 : (backToKw pos (keywordEach [] X.env)) = [] := rfl
    rw [h1, h2]
    simp only [Bool.true_and, List.all_nil, List.isEmpty_nil, if_true, List.length_nil, Nat.add_zero]
    exact decide_eq_true (by omega)
  have hpos : ∀ few, methodCallPos few o X.env apos pos = pure pos := fun few => by unfold methodCallPos; simp [hl]
  unfold methodCall
  rw [hform, hpos]
  rfl
def tMethS (C : Addr) (m : Str) (sp : Sp) (E : L2.St → XK) (ta : TE) (t : TA) : TE := fun σ H Q => ta σ H fun x H1 => ∃ a dx fs, x = .ref a ∧ H1 a = some (.ins C dx fs) ∧ fs.lookup m = none ∧
  t σ H1 fun vs H2 => sp (x :: vs) H2 Q (E σ)
end
section
variable {St : Stc} {Z : Z0} {G : Env} {sub : Sub} {k : Nat} {calm : Bool}
theorem glob_of {X : Cx} {x : Str} (h : glob X.env.scope x = true) : Gl X x := of_decide_eq_true (p := X.env.scope.names.lookup x = some .globalImplicit) h
/-- what a def's promise asks, of arguments that are there -/
theorem sp_of {X : Cx} {W : WX} {gg : List D → M R} {ar : Nat} (hl : ∀ ds st, gg ds st ≠ .bad → ds.length = ar) {ds : List D} {vs : List V} {F : Fz} {H : Hp} {σ : L2.St} {Q : VK} (s : Ok X.K F H) (hcl : F.cl = Z.F0.cl) (rs : Reps X.K F ds vs) (q : PostE X.K Z W (gg ds) F H σ Q) :
    spF X.K Z.F0.cl Z.cls ar gg vs H Q (WE W σ) := by
  refine ⟨F, ds, s, hcl, rs, hl ds F.st fun z => ?_, ?_⟩
  · unfold PostE PostM at q; rw [z] at q; exact q
  · unfold PostE PostM at q
    cases e : gg ds F.st with
    | ok r st => rw [e] at q; exact q
    | ex c st => rw [e] at q; exact q
    | bad => rw [e] at q; exact q
theorem fn_at {f : Nat} {X : Cx} {W : WX} (g : Good X St Z W G sub k calm) {gg : List D → M R} {x : Str} (hf : (St.fn.any fun p => decide (p.1 = f) && decide (p.2.1 = x)) = true) (eg : G f = some gg) :
    ∃ ar fa fd ps, X.mg x = some (.ref fa) ∧ PySem.W.keepIn X.K (.ref fa) = true ∧ Binds X.K fd ps [] ∧ ps.length = ar ∧ (∀ ds st, gg ds st ≠ .bad → ds.length = ar) ∧ FnOk X.prog X.w X.K X.mg X.base (L2.CX X.prog X.w) k fa fd ps (spF X.K Z.F0.cl Z.cls ar gg) := by
  obtain ⟨ar, fa, fd, ps, h3, h4, h5, h5', h6, h7, _⟩ := g.fn f gg eg
  obtain ⟨pr, hm, hp⟩ := List.any_eq_true.mp hf
  simp only [Bool.and_eq_true, decide_eq_true_eq] at hp
  have h2 := h7 pr hm hp.1
  rw [hp.2] at h2
  exact ⟨ar, fa, fd, ps, h2, h3, h4, h5, h5', h6⟩
theorem ms_at {f c : Nat} {m : Str} {X : Cx} {W : WX} (g : Good X St Z W G sub k calm) {gg : List D → M R} (hf : (St.ms.any fun p => decide (p.1 = f) && decide (p.2.1 = c) && decide (p.2.2 = m)) = true) (eg : G f = some gg) :
    ∃ ar fa fd ps C ns, Z.F0.cl c = some (C, ns) ∧ Meth X.K C m fa ∧ m ∉ ns ∧ Binds X.K fd ps [] ∧ ps.length = ar ∧ (∀ ds st, gg ds st ≠ .bad → ds.length = ar) ∧ FnOk X.prog X.w X.K X.mg X.base (L2.CX X.prog X.w) k fa fd ps (spF X.K Z.F0.cl Z.cls ar gg) := by
  obtain ⟨ar, fa, fd, ps, h3, h4, h5, h5', h6, _, h7⟩ := g.fn f gg eg
  obtain ⟨pr, hm, hp⟩ := List.any_eq_true.mp hf
  simp only [Bool.and_eq_true, decide_eq_true_eq] at hp
  obtain ⟨C, ns, q1, q2, q3⟩ := h7 pr hm hp.1.1
  rw [hp.1.2] at q1
  rw [hp.2] at q2 q3
  exact ⟨ar, fa, fd, ps, C, ns, q1, q2, q3, h4, h5, h5', h6⟩
/-- f(a, ..) of a def of the text -/
theorem pe_fn {X : Cx} {W : WX} {f : Nat} {x : Str} {p pos : Pos} {e0 : Expr} {es : List Expr} {te : List S → M (List D)} (g : Good X St Z W G sub k calm) (hc : calm = true) (hg : glob X.env.scope x = true) (hn : okName x = true) (hs : (e0 :: es).all notStar = true)
    (hf : (St.fn.any fun p => decide (p.1 = f) && decide (p.2.1 = x)) = true) (ha : PA X (e0 :: es) (tDs X.K Z W te)) :
    PE X (.Call (.Name x p) (e0 :: es) [] pos) (tE X.K Z W fun ss => callG (G f) (te ss)) := by
  refine ⟨fun pins s σ H Q I h => ?_⟩
  obtain ⟨F, ss, rel, q⟩ := h
  dsimp only at q
  obtain ⟨hcalm, hr, _⟩ := g.calm hc
  cases eg : G f with
  | none => rw [eg] at q; exact (show False from q).elim
  | some gg =>
    rw [eg] at q
    dsimp only [callG] at q
    obtain ⟨ar, fa, fd, ps, h2, h3, h4, h5, h5', h6⟩ := fn_at g hf eg
    have big : tDs X.K Z W te σ H fun vs H1 => spF X.K Z.F0.cl Z.cls ar gg vs H1 Q (WE W σ) :=
      ⟨F, ss, rel, (PostE.bind q).mono fun ds F1 H1 e x1 p1 vs rs => sp_of h5' x1.ok (x1.le.cl.trans rel.cl) rs p1⟩
    rw [List.all_cons, Bool.and_eq_true] at hs
    exact (pe_callS h6 (hr.mono (Nat.le_succ _)) (glob_of hg) h2 h3 h4 (fun σ => passAt g.tk σ) ha (okName_1 hn) (starEach_of hs.1) (starEach_any hs.2)).run pins s σ H Q I big
/-- f() -/
theorem pe_fn0 {X : Cx} {W : WX} {f : Nat} {x : Str} {p pos : Pos} (g : Good X St Z W G sub k calm) (hc : calm = true) (hg : glob X.env.scope x = true) (hn : okName x = true)
    (hf : (St.fn.any fun p => decide (p.1 = f) && decide (p.2.1 = x)) = true) :
    PE X (.Call (.Name x p) [] [] pos) (tE X.K Z W fun ss => callG (G f) (M.ok [])) := by
  refine ⟨fun pins s σ H Q I h => ?_⟩
  obtain ⟨F, ss, rel, q⟩ := h
  dsimp only at q
  obtain ⟨hcalm, hr, _⟩ := g.calm hc
  cases eg : G f with
  | none => rw [eg] at q; exact (show False from q).elim
  | some gg =>
    rw [eg] at q
    obtain ⟨ar, fa, fd, ps, h2, h3, h4, h5, h5', h6⟩ := fn_at g hf eg
    refine wpAny_Call_Name_kw (ld_glob I (glob_of hg) h2 ?_ (okName_1 hn))
    exact PySem.W.callWith_K0 I.kIn h3 (run_fnS (us := []) (E := fun σ => WE W σ) h6 (hr.mono (Nat.le_succ _)) h4 (passAt g.tk σ) I .nil (sp_of h5' rel.ok rel.cl Reps.nil q))
theorem isInst_inv {d : D} {c : Nat} {st : Store} : isInst d c st = .bad ∨ ∃ n fs, d = .obj n ∧ st[n]? = some (.inst c fs) ∧ isInst d c st = .ok () st := by
  cases d with
  | obj n =>
    unfold isInst M.get
    dsimp only
    cases e : st[n]? with
    | none => exact .inl rfl
    | some o =>
      cases o with
      | inst c' fs =>
        dsimp only
        by_cases h : c' = c
        · rw [if_pos h]; subst h; exact .inr ⟨n, fs, rfl, e, rfl⟩
        · rw [if_neg h]; exact .inl rfl
      | lst xs => exact .inl rfl
      | dic xs => exact .inl rfl
  | _ => exact .inl rfl
theorem isInst_ok {K : PySem.W.Frag} {W : WX} {α : Type} {r : R} {c : Nat} {f : Unit → M α} {F : Fz} {H H0 : Hp} {σ : L2.St} {Q : α → Fz → Hp → Prop} {v : V} (ok : Ok K F H) (rv : RepR K H0 F H r v) (p : PostM K Z W ((isInst r.view c).bind f) F H σ Q) :
    ∃ n a C ns dx kvs, r.view = .obj n ∧ Rep K F (.obj n) v ∧ v = .ref a ∧ F.cl c = some (C, ns) ∧ H a = some (.ins C dx kvs) ∧ (∀ m, m ∉ ns → kvs.lookup m = none) ∧ PostM K Z W (f ()) F H σ Q := by
  rcases isInst_inv (d := r.view) (c := c) (st := F.st) with e | ⟨n, fs, e1, e2, e3⟩
  · exact (p.isBad e).elim
  · have hr : r = .val (.obj n) := by
      cases r with
      | val d => have e1' : d = .obj n := e1; rw [e1']
      | own xs => cases e1
      | bor xs => cases e1
    subst hr
    have rv' : Rep K F (.obj n) v := rv
    obtain ⟨a, C, ns, dx, kvs, rfl, ha, h3, h4, h5⟩ := ok.inst e2 rv'
    exact ⟨n, a, C, ns, dx, kvs, rfl, rv', rfl, h3, h4, h5.out, p.pure e3⟩
/-- o.m(..) -/
theorem pe_mt {X : Cx} {W : WX} {c f : Nat} {m : Str} {o : Expr} {apos pos : Pos} {es : List Expr} {oa : List S → M R} {te : List S → M (List D)} (g : Good X St Z W G sub k calm) (hc : calm = true) (hb : notSup o = true) (hl : (apos.endLine == pos.line) = true) (hn : es.length < 20) (hs : es.all notStar = true)
    (hf : (St.ms.any fun p => decide (p.1 = f) && decide (p.2.1 = c) && decide (p.2.2 = m)) = true) (hcs : (St.cs.any fun p => decide (p.1 = c)) = true) (ho : PE X o (tE X.K Z W oa)) (ha : PA X es (tDs X.K Z W te)) (h0 : es = [] → ∀ ss, te ss = .ok []) :
    PE X (.Call (.Attribute o m apos) es [] pos) (tE X.K Z W fun ss => withG (G f) fun gg => (oa ss).bind fun x => (isInst x.view c).bind fun _ => (te ss).bind fun ds => gg (x.view :: ds)) := by
  refine ⟨fun pins s σ H Q I h => ?_⟩
  obtain ⟨F, ss, rel, q⟩ := h
  dsimp only at q
  obtain ⟨hcalm, hr, _⟩ := g.calm hc
  have tree := eval_meth (X := X) (m := m) hb hl hs hn
  cases eg : G f with
  | none => rw [eg] at q; exact (show False from q).elim
  | some gg =>
    rw [eg] at q
    dsimp only [withG] at q
    obtain ⟨ar, fa, fd, ps, C', ns', z1, z2, z3, z4, z5, z6, z7⟩ := ms_at g hf eg
    obtain ⟨pr, hm, hp⟩ := List.any_eq_true.mp hcs
    obtain ⟨C2, y1, _, y3, _⟩ := g.cs pr hm
    rw [of_decide_eq_true hp, z1] at y1
    cases y1
    refine PySem.W.methodCall_KW (thn (ho.run pins s σ H (fun x H1 => ∃ a dx fs, x = .ref a ∧ H1 a = some (.ins C' dx fs) ∧ fs.lookup m = none ∧
        ((es = [] → spF X.K Z.F0.cl Z.cls ar gg [x] H1 Q (WE W σ)) ∧ tDs X.K Z W te σ H1 fun vs H2 => spF X.K Z.F0.cl Z.cls ar gg (x :: vs) H2 Q (WE W σ))) I ⟨F, ss, rel, (PostE.bind q).toE fun x F1 H1 v e x1 p1 rv => ?_⟩) fun u s1 ⟨x, H1, I1, rx, a, dx, fs, ex, ea, l, q20, q2⟩ => ?_) tree
    · obtain ⟨n, a, C, ns, dx, kvs, e1, r1, rfl, q1, q2, q3, p2⟩ := isInst_ok x1.ok rv p1
      rw [e1] at p2
      rw [x1.le.cl, rel.cl] at q1
      rw [z1] at q1; cases q1
      refine ⟨a, dx, kvs, rfl, q2, q3 m z3, fun h => ?_, F1, ss, rel.grow x1, ?_⟩
      · rw [h0 h ss] at p2
        exact sp_of z6 x1.ok (x1.le.cl.trans rel.cl) (Reps.cons r1 Reps.nil) (show PostE X.K Z W (gg [.obj n]) F1 H1 σ Q from p2)
      · have p2' : PostE X.K Z W ((te ss).bind fun ds => gg (.obj n :: ds)) F1 H1 σ Q := p2
        exact (PostE.bind p2').mono fun ds F2 H2 e2 x2 p3 vs rs => sp_of z6 x2.ok (x2.le.cl.trans (x1.le.cl.trans rel.cl)) (Reps.cons (Rep.mono x2.le _ _ r1) rs) p3
    · subst ex
      obtain rfl : u = Value.ref a := rx
      refine getmeth_ok I1 ea y3 z2 l ?_
      cases es with
      | nil => exact PySem.W.callWith_K0 (first := [.ref a]) I1.kIn z2.kp (run_fnS (us := [.ref a]) (vs := [.ref a]) (E := fun σ => WE W σ) z7 (hr.mono (Nat.le_succ _)) z4 (passAt g.tk σ) I1 (.cons rfl .nil) (q20 rfl))
      | cons e0 es =>
        rw [List.all_cons, Bool.and_eq_true] at hs
        refine PySem.W.callWith_K (first := [.ref a]) (h₀ := X.base) I.ok.mod.kin z2.kp (thn (ha.run pos pins s1 σ H1 _ I1 q2) fun us s2 ⟨vs, H2, I2, r, q2⟩ => ⟨I2.kIn, ?_⟩) (starEach_of hs.1) (starEach_any hs.2)
        exact run_fnS (us := .ref a :: us) (vs := .ref a :: vs) (E := fun σ => WE W σ) z7 (hr.mono (Nat.le_succ _)) z4 (passAt g.tk σ) I2 (.cons rfl r) q2
/-- an instance is made -/
theorem run_makeS {X : Cx} {C f : Addr} {k : Nat} {fd : FuncData} {ps : List Str} {sp : Sp} {E : L2.St → XK} {pins : List (Addr × Obj)} {σ : L2.St} {H : Hp} {s : Shared} {Q : VK} {us : List Value} {vs : List V} (M : Mk X.K C f) (F : FnOk X.prog X.w X.K X.mg X.base (L2.CX X.prog X.w) k f fd ps sp) (hr : Room (k + 1) X.A) (hb : Binds X.K fd ps [])
    (hx : PassesAt (L2.CX X.prog X.w) X σ (E σ)) (I : Inv X pins σ H s) (r : Vals vs us)
    (h : ∀ x dx, H x = none → H dx = none → dx ≠ x → sp (.ref x :: vs) (upd (upd H dx (.own x)) x (.ins C dx [])) (fun v H2 => v = .non ∧ Q (.ref x) H2) (E σ)) :
    wpAny (model X.prog X.w) X.A (call (.ref C) us) (EP X pins σ Q) X.xe s := by
  have hq := h (s.heap.objs.size + 1) s.heap.objs.size (I.hok.fresh (Nat.le_succ _)) (I.hok.fresh (Nat.le_refl _)) (Nat.ne_of_lt (Nat.lt_succ_self _))
  have I2 := Inv.made (C := C) I
  have r2 : Vals (V.ref (s.heap.objs.size + 1) :: vs) (Value.ref (s.heap.objs.size + 1) :: us) := .cons rfl r
  have hl : (Value.ref (s.heap.objs.size + 1) :: us).length = ps.length := by
    have e := r2.length
    rw [F.len _ _ _ _ hq] at e
    exact e.symm
  have b := hb _ (Value.ref (s.heap.objs.size + 1) :: us) I2.kIn (by rw [List.append_nil]; exact hl)
  rw [List.append_nil] at b
  refine wpAny_call (make_map (f := f) I.kIn M.makes M.init (beq_iff_eq.mp M.fn) (codeAny_mono (F.run _ X.stack _ _ ⟨Value.ref (s.heap.objs.size + 1) :: us, []⟩ (Value.ref (s.heap.objs.size + 1) :: us) _ _ (E σ) (hr.make C us [])
    (I2.env0.make C us []) b r2 hq) fun r s' hq' => ?_))
  cases r with
  | error e => exact hx pins _ _ e s' I2 hq'
  | ok fl =>
    cases fl with
    | ret u =>
      obtain ⟨v, H', I3, rv, ev, q3⟩ := I2.after hq'
      subst ev
      exact ⟨rv, ⟨V.ref (s.heap.objs.size + 1), H', I3, rfl, q3⟩⟩
    | next => exact False.elim hq'
    | brk => exact False.elim hq'
    | cont => exact False.elim hq'
theorem newOb_ok {K : PySem.W.Frag} {W : WX} {α : Type} {o : Ob} {f : D → M α} {F : Fz} {H : Hp} {σ : L2.St} {Q : α → Fz → Hp → Prop} (p : PostM K Z W ((newOb o).bind f) F H σ Q) : ∀ F' H', F'.st = F.st ++ [o] → Ext K F H F' H' → PostM K Z W (f (.obj F.st.length)) F' H' σ Q :=
  fun F' H' e x => PostM.bind p F' H' e x
theorem initR_inv {o : D} {r : R} {st : Store} : initR o r st = .bad ∨ r = .val .non ∧ initR o r st = .ok (.val o) st := by
  cases r with
  | val d => cases d <;> first | exact .inr ⟨rfl, rfl⟩ | exact .inl rfl
  | own xs => exact .inl rfl
  | bor xs => exact .inl rfl
/-- what a new instance's __init__ is asked -/
theorem new_sp {X : Cx} {W : WX} {gg : List D → M R} {ar c n : Nat} (hl : ∀ ds st, gg ds st ≠ .bad → ds.length = ar) {C : Addr} {ns : List Str} (hcl : Z.F0.cl c = some (C, ns)) (hnd : ns.Nodup) (hn : ns.length = n) (hn2 : n < 900) {ds : List D} {vs : List V} {F : Fz} {H : Hp} {σ : L2.St} {Q : VK} (s : Ok X.K F H) (hz : F.cl = Z.F0.cl) (rs : Reps X.K F ds vs)
    (q : PostE X.K Z W ((newOb (.inst c (List.replicate n none))).bind fun o => (gg (o :: ds)).bind (initR o)) F H σ Q) :
    ∀ x dx, H x = none → H dx = none → dx ≠ x → spF X.K Z.F0.cl Z.cls ar gg (.ref x :: vs) (upd (upd H dx (.own x)) x (.ins C dx [])) (fun v H2 => v = .non ∧ Q (.ref x) H2) (WE W σ) := by
  intro x dx hx hdx hne
  have x1 : Ext X.K F H F (upd H dx (.own x)) := Ext.of s hdx
  have hx2 : upd H dx (.own x) x = none := by rw [upd_ne (fun z => hne z.symm)]; exact hx
  have x2 : Ext X.K F H F (upd (upd H dx (.own x)) x (.ins C dx [])) := x1.trans (Ext.of x1.ok hx2)
  have fx := s.free hx
  have ob : ObRep X.K (F.push x (.inst c (List.replicate n none))) (upd (upd H dx (.own x)) x (.ins C dx [])) x (.inst c (List.replicate n none)) :=
    ⟨C, ns, dx, [], by show F.cl c = _; rw [hz]; exact hcl, upd_same, ⟨hnd, by simp [hn], by simpa using hn2, Nat.zero_le _, fun k f d _ h => (by
      have := (List.getElem?_eq_some_iff.mp h)
      obtain ⟨h1, h2⟩ := this
      rw [List.getElem_replicate] at h2
      cases h2), fun _ _ _ _ => rfl, fun _ _ => rfl⟩⟩
  have x3 := x2.push fx hx ob
  have p := newOb_ok q _ _ rfl x3
  have rx : Rep X.K (F.push x (.inst c (List.replicate n none))) (.obj F.st.length) (.ref x) := by
    unfold Rep
    exact ⟨x, rfl, by rw [← s.len]; show (F.al ++ [x])[F.al.length]? = some x; simp⟩
  have p' : PostE X.K Z W ((gg (.obj F.st.length :: ds)).bind (initR (.obj F.st.length))) (F.push x (.inst c (List.replicate n none))) (upd (upd H dx (.own x)) x (.ins C dx [])) σ Q := PostM.back (fun _ => x3.free) p
  refine sp_of (Z := Z) hl x3.ok (show F.cl = _ from hz) (Reps.cons rx (Reps.mono Le.push _ _ rs)) ((PostE.bind p').toE fun r F4 H4 v e x4 p4 rv => ?_)
  rcases initR_inv (o := .obj F.st.length) (r := r) (st := F4.st) with z | ⟨rfl, z⟩
  · unfold PostE PostM at p4; rw [z] at p4; exact p4.elim
  · unfold PostE PostM at p4; rw [z] at p4
    have rv' : Rep X.K F4 .non v := rv
    unfold Rep at rv'
    exact ⟨rv', p4 F4 H4 rfl (Ext.refl x4.ok) (.ref x) (Rep.mono x4.le _ _ rx)⟩
/-- C(..) -/
theorem pe_nw {X : Cx} {W : WX} {c f n : Nat} {x : Str} {p pos : Pos} {es : List Expr} {te : List S → M (List D)} (g : Good X St Z W G sub k calm) (hc : calm = true) (hg : glob X.env.scope x = true) (hok : okName x = true) (hs : es.all notStar = true) (hn : n < 900)
    (hcs : (St.cs.any fun p => decide (p.1 = c) && decide (p.2.1 = x) && decide (p.2.2.length = n)) = true) (hf : (St.ms.any fun p => decide (p.1 = f) && decide (p.2.1 = c) && decide (p.2.2 = "__init__")) = true) (ha : PA X es (tDs X.K Z W te)) (h0 : es = [] → ∀ ss, te ss = .ok []) :
    PE X (.Call (.Name x p) es [] pos) (tE X.K Z W fun ss => withG (G f) fun gg => (te ss).bind fun ds => (newOb (.inst c (List.replicate n none))).bind fun o => (gg (o :: ds)).bind (initR o)) := by
  refine ⟨fun pins s σ H Q I h => ?_⟩
  obtain ⟨F, ss, rel, q⟩ := h
  dsimp only at q
  obtain ⟨hcalm, hr, _⟩ := g.calm hc
  cases eg : G f with
  | none => rw [eg] at q; exact (show False from q).elim
  | some gg =>
    rw [eg] at q
    dsimp only [withG] at q
    obtain ⟨ar, fa, fd, ps, C', ns', z1, z2, z3, z4, z5, z6, z7⟩ := ms_at g hf eg
    obtain ⟨pr, hm, hp⟩ := List.any_eq_true.mp hcs
    simp only [Bool.and_eq_true, decide_eq_true_eq] at hp
    obtain ⟨C2, y1, y2, y3, y4, y5, y6, y7⟩ := g.cs pr hm
    rw [hp.1.1, z1] at y1
    cases y1
    rw [hp.1.2] at y2
    have mk : Mk X.K C' fa := ⟨y5, z2.at_, z2.fn, y6⟩
    refine wpAny_Call_Name_kw (ld_glob I (glob_of hg) y2 ?_ (okName_1 hok))
    cases es with
    | nil =>
      rw [h0 rfl ss] at q
      exact PySem.W.callWith_K0 I.kIn mk.kp (run_makeS (us := []) (E := fun σ => WE W σ) mk z7 hr z4 (passAt g.tk σ) I .nil (new_sp z6 z1 y7 hp.2 hn rel.ok rel.cl Reps.nil q))
    | cons e0 es =>
      rw [List.all_cons, Bool.and_eq_true] at hs
      have big : tDs X.K Z W te σ H fun vs H1 => ∀ x dx, H1 x = none → H1 dx = none → dx ≠ x → spF X.K Z.F0.cl Z.cls ar gg (.ref x :: vs) (upd (upd H1 dx (.own x)) x (.ins C' dx [])) (fun v H2 => v = .non ∧ Q (.ref x) H2) (WE W σ) :=
        ⟨F, ss, rel, (PostE.bind q).mono fun ds F1 H1 e x1 p1 vs rs => new_sp z6 z1 y7 hp.2 hn x1.ok (x1.le.cl.trans rel.cl) rs p1⟩
      refine PySem.W.callWith_K (h₀ := X.base) I.ok.mod.kin mk.kp (thn (ha.run pos pins s σ H _ I big) fun us s1 ⟨vs, H1, I1, r, q⟩ => ⟨I1.kIn, ?_⟩) (starEach_of hs.1) (starEach_any hs.2)
      exact run_makeS (E := fun σ => WE W σ) mk z7 hr z4 (passAt g.tk σ) I1 r q
end
end EV

set_option Elab.async false
set_option linter.all false
set_option autoImplicit false
set_option maxRecDepth 100000
set_option maxHeartbeats 16000000
/-! EwB8: expressions are what the evaluator says. -/
namespace EV
open PySem PySem.Spec PyProof.Rows L2
/-- a new list is held by many -/
def R.hard : R → R
  | .own xs => .val (.lst xs)
  | r => r
section
variable {St : Stc} {Z : Z0} {G : Env} {sub : Sub} {k : Nat} {calm : Bool}
theorem reps_of {K : PySem.W.Frag} {F : Fz} {H : Hp} : ∀ {rs : List R} {vs : List V} {H0 : Hp}, Ok K F H → Paired (RepR K H0 F H) rs vs → Paired (View K F H) (rs.map R.view) vs
  | [], _, _, _, .nil => .nil
  | _ :: _, _, _, s, .cons r t => .cons (RepR.view s r) (reps_of s t)
theorem RepR.harden {K : PySem.W.Frag} {F F1 : Fz} {H H1 : Hp} {r : R} {v : V} (x : Ext K F H F1 H1) (rv : RepR K H F1 H1 r v) : ∃ F2, F2.st = F1.st ∧ Ext K F H F2 H1 ∧ RepR K H F2 H1 r.hard v ∧ Le F1 F2 := by
  cases r with
  | val d => exact ⟨F1, rfl, x, rv, Le.refl _⟩
  | bor xs => exact ⟨F1, rfl, x, rv, Le.refl _⟩
  | own xs =>
    obtain ⟨F2, s2, x2, r2, l2⟩ := RepR.fixE (st := F1.st) (st' := F1.st) x rv rfl
    exact ⟨F2, s2, x2, r2, l2⟩
/-- a list that is walked -/
theorem src_ok {K : PySem.W.Frag} {F : Fz} {H H0 : Hp} {r : R} {v : V} {xs : List D} {gd : Gd} (ok : Ok K F H) (rv : RepR K H0 F H r.hard v) (e : r.lstr F.st = .ok (xs, gd) F.st) :
    ∃ a, v = .ref a ∧ (∃ vs, SqL K H a vs) ∧ (∀ F3 H3, Ok K F3 H3 → Ext K F H F3 H3 → gd.ok F3.st → ∃ vs, SqL K H3 a vs ∧ Reps K F3 xs vs) ∧
      (r.fx = true → ∀ F3 H3, Ok K F3 H3 → Le F F3 → gd.ok F3.st → ∃ vs, SqL K H3 a vs ∧ Reps K F3 xs vs) := by
  have frz : ∀ ys, Rep K F (.lst ys) v → ∃ a, v = .ref a ∧ (∃ vs, SqL K H a vs) ∧ (∀ F3 H3, Ok K F3 H3 → Le F F3 → ∃ vs, SqL K H3 a vs ∧ Reps K F3 ys vs) := fun ys h => by
    unfold Rep at h
    obtain ⟨a, vs, rfl, h1, h2⟩ := h
    exact ⟨a, rfl, ⟨vs, SqL.of (ok.sub _ _ h1)⟩, fun F3 H3 k3 le => ⟨vs, SqL.of (k3.sub _ _ (le.h _ _ h1)), Reps.mono le _ _ h2⟩⟩
  cases r with
  | own ys =>
    have e' : (Out.ok (ys, []) F.st : Out (List D × Gd)) = .ok (xs, gd) F.st := e
    cases e'
    obtain ⟨a, h1, h2, h3⟩ := frz xs rv
    exact ⟨a, h1, h2, fun F3 H3 k3 x _ => h3 F3 H3 k3 x.le, fun _ F3 H3 k3 x _ => h3 F3 H3 k3 x⟩
  | bor ys =>
    have e' : (Out.ok (ys, []) F.st : Out (List D × Gd)) = .ok (xs, gd) F.st := e
    cases e'
    obtain ⟨a, vs, rfl, h1, h2, h3⟩ := rv
    exact ⟨a, rfl, ⟨vs, SqL.of h1⟩, fun F3 H3 k3 x _ => ⟨vs, SqL.of (x.sh _ _ h2 h1), Reps.mono x.le _ _ h3⟩, fun z => by cases z⟩
  | val d =>
    cases d with
    | lst ys =>
      have e' : (Out.ok (ys, []) F.st : Out (List D × Gd)) = .ok (xs, gd) F.st := e
      cases e'
      obtain ⟨a, h1, h2, h3⟩ := frz xs rv
      exact ⟨a, h1, h2, fun F3 H3 k3 x _ => h3 F3 H3 k3 x.le, fun _ F3 H3 k3 x _ => h3 F3 H3 k3 x⟩
    | obj n =>
      unfold R.lstr M.get at e
      dsimp only at e
      cases eo : F.st[n]? with
      | none => rw [eo] at e; cases e
      | some o =>
        rw [eo] at e
        cases o with
        | lst ys =>
          have e' : (Out.ok (ys, [(n, ys)]) F.st : Out (List D × Gd)) = .ok (xs, gd) F.st := e
          cases e'
          have rv' : Rep K F (.obj n) v := rv
          obtain ⟨a, vs, rfl, h1, h2, h3⟩ := ok.list eo rv'
          have go : ∀ F3 H3, Ok K F3 H3 → Le F F3 → Gd.ok [(n, xs)] F3.st → ∃ vs, SqL K H3 a vs ∧ Reps K F3 xs vs := fun F3 H3 k3 le gd => by
            obtain ⟨b, us, eb, q1, q2, q3⟩ := k3.list (gd (n, xs) (List.mem_singleton.mpr rfl)) (Rep.mono le _ _ rv')
            cases eb
            exact ⟨us, SqL.of q2, q3⟩
          exact ⟨a, rfl, ⟨vs, SqL.of h2⟩, fun F3 H3 k3 x g => go F3 H3 k3 x.le g, fun _ F3 H3 k3 x g => go F3 H3 k3 x g⟩
        | inst _ _ => cases e
        | dic _ => cases e
    | _ => cases e
theorem lstr_view {r : R} {xs : List D} (h : r.view = .lst xs) (st : Store) : r.lstr st = .ok (xs, []) st := by
  cases r with
  | val d =>
    have e : d = .lst xs := h
    subst e; rfl
  | own ys => cases h; rfl
  | bor ys => cases h; rfl
theorem hard_own {r : R} : r.hard.hard = r.hard := by cases r <;> rfl
theorem evF_len : ∀ {es : List E} {ss : List S} {ds : List D} {st st' : Store}, evF G sub es ss st = .ok ds st' → ds.length = es.length
  | [], ss, ds, st, st', h => by
    unfold evF at h
    injection h with e1 e2
    rw [← e1]; rfl
  | e :: es, ss, ds, st, st', h => by
    unfold evF at h
    obtain ⟨r, st1, h1, h⟩ := bind_okD h
    obtain ⟨d, st2, h2, h⟩ := bind_okD h
    obtain ⟨ds', st3, h3, h⟩ := bind_okD h
    injection h with e1 e2
    rw [← e1]; simp [evF_len h3]
theorem pa_nilD {X : Cx} {W : WX} : PA X [] (tDs X.K Z W (evF G sub [])) := PA.imp pa_nil fun σ H Q ⟨F, ss, rel, p⟩ => by unfold evF at p; exact p F H rfl (Ext.refl rel.ok) [] Reps.nil
theorem pa_consD {X : Cx} {W : WX} {a : E} {as : List E} {x : Expr} {xs : List Expr} (hs : notStar x = true) (ha : PE X x (tE X.K Z W (evE G sub a))) (hr : PA X xs (tDs X.K Z W (evF G sub as))) : PA X (x :: xs) (tDs X.K Z W (evF G sub (a :: as))) := by
  refine PA.imp (pa_cons ha hr (starEach_of hs)) fun σ H Q ⟨F, ss, rel, p⟩ => ⟨F, ss, rel, ?_⟩
  unfold evF at p
  have pb := PostDs.bind p
  unfold PostM at pb
  unfold PostE PostM
  cases e : evE G sub a ss F.st with
  | bad => rw [e] at pb; exact pb.elim
  | ex c st => rw [e] at pb; exact pb
  | ok r st =>
    rw [e] at pb
    intro F1 H1 hs1 x1 v rv
    subst hs1
    obtain ⟨d, hd, _⟩ := fix_ok (pb F1 H1 rfl x1)
    obtain ⟨F2, s2, x2, r2, l2⟩ := RepR.fixE x1 rv hd
    have p2 := pb F2 H1 s2 x2
    have hd2 : r.fix F2.st = .ok d F2.st := by rw [s2]; exact hd
    have p3 := PostM.pure hd2 p2
    refine ⟨F2, ss, rel.grow x2, (PostDs.bind p3).mono fun ds F3 H3 e3 x3 q vs rs => ?_⟩
    exact q F3 H3 rfl (Ext.refl x3.ok) (v :: vs) (Reps.cons (Rep.mono x3.le _ _ r2) rs)
theorem sndX {X : Cx} {W : WX} (g : Good X St Z W G sub k calm) : ∀ (cs : List Nat) {es : List Expr}, chkX St X.env.scope cs es = true → ∃ Cs : List Addr, cs.map Z.cls = Cs.map Value.ref ∧ PA X es (fun _ H Q => Q (Cs.map V.ref) H)
  | [], es, h => by
    unfold chkX at h
    split at h
    · exact ⟨[], rfl, PA.imp pa_nil fun σ H Q q => q⟩
    · cases h
  | k :: ks, es, h => by
    unfold chkX at h
    split at h
    · rename_i c pc es
      simp only [Bool.and_eq_true, decide_eq_true_eq] at h
      obtain ⟨Cs, h1, h2⟩ := sndX g ks h.2
      obtain ⟨D, hD, hcl⟩ := g.exn _ h.1.2
      refine ⟨D :: Cs, by simp [h1, hcl], PA.imp (pa_cons (pe_glob (pos := pc) (glob_of h.1.1.1) hD (show L2.RelV (.ref D) (.ref D) from rfl) (okName_1 h.1.1.2)) h2) fun σ H Q q => q⟩
    · cases h
theorem Good.clsOk {X : Cx} {W : WX} (g : Good X St Z W G sub k calm) : ClsOk X.K Z.F0.cl St.cs := fun p hp => by
  obtain ⟨C, h1, h2, h3, h4, _⟩ := g.cs p hp
  exact ⟨C, h1, h3, h4⟩
end
end EV

set_option Elab.async false
set_option linter.all false
set_option autoImplicit false
set_option maxRecDepth 100000
set_option maxHeartbeats 16000000
/-! EwBa: chains of comparisons, methods of texts, f'..', list(range(..)), len(set(..)), pop. -/
namespace EV
open PySem PySem.Spec PyProof.Rows L2
section
variable {St : Stc} {Z : Z0} {G : Env} {sub : Sub} {k : Nat} {calm : Bool}
theorem updL_inv {d : EV.D} {h : List EV.D → Option (List EV.D)} {st : Store} : updL d h st = .bad ∨ ∃ n xs ys, d = .obj n ∧ st[n]? = some (.lst xs) ∧ h xs = some ys ∧ updL d h st = .ok () (st.set n (.lst ys)) := by
  cases d with
  | obj n =>
    unfold updL M.get
    dsimp only
    cases e : st[n]? with
    | none => exact .inl rfl
    | some o =>
      cases o with
      | lst xs =>
        dsimp only
        cases e2 : h xs with
        | none => exact .inl rfl
        | some ys => exact .inr ⟨n, xs, ys, rfl, e, e2, rfl⟩
      | inst _ _ => exact .inl rfl
      | dic _ => exact .inl rfl
  | _ => exact .inl rfl
/-- a list of the store is changed -/
theorem updL_ok {K : PySem.W.Frag} {W : WX} {F : Fz} {H : Hp} {σ : L2.St} {Q : Unit → Fz → Hp → Prop} {d : EV.D} {h : List EV.D → Option (List EV.D)} {x : V} (ok : Ok K F H) (rx : Rep K F d x) (p : PostM K Z W (updL d h) F H σ Q) :
    ∃ a vs xs ys, x = .ref a ∧ H a = some (.lst vs) ∧ Reps K F xs vs ∧ h xs = some ys ∧ ∀ ws, Reps K F ys ws → ∃ F', Ext K F H F' (upd H a (.lst ws)) ∧ Q () F' (upd H a (.lst ws)) := by
  rcases updL_inv (d := d) (h := h) (st := F.st) with e | ⟨n, xs, ys, rfl, h1, h2, e⟩
  · unfold PostM at p; rw [e] at p; exact p.elim
  · obtain ⟨a, vs, rfl, ha, h3, h4⟩ := ok.list h1 rx
    refine ⟨a, vs, xs, ys, rfl, h3, h4, h2, fun ws r => ?_⟩
    have X : Ext K F H (F.wr n (.lst ys)) (upd H a (.lst ws)) := Ext.wr ok ha ⟨ws, upd_same, Reps.mono Le.wr _ _ r⟩
    refine ⟨_, X, ?_⟩
    unfold PostM at p; rw [e] at p
    exact p _ _ rfl X
theorem view_rep {K : PySem.W.Frag} {F : Fz} {H H0 : Hp} {r : R} {v : V} {n : Nat} (e : r.view = .obj n) (rv : RepR K H0 F H r v) : Rep K F (.obj n) v := by
  cases r with
  | val d => have z : d = .obj n := e; rw [z] at rv; exact rv
  | own xs => cases e
  | bor xs => cases e
theorem isLst_inv {d : EV.D} {st : Store} : isLst d st = .bad ∨ ∃ n xs, d = .obj n ∧ st[n]? = some (.lst xs) ∧ isLst d st = .ok () st := by
  cases d with
  | obj n =>
    unfold isLst M.get
    dsimp only
    cases e : st[n]? with
    | none => exact .inl rfl
    | some o =>
      cases o with
      | lst xs => exact .inr ⟨n, xs, rfl, e, rfl⟩
      | inst _ _ => exact .inl rfl
      | dic _ => exact .inl rfl
  | _ => exact .inl rfl

theorem bind_assoc {α β γ : Type} (m : M α) (f : α → M β) (h : β → M γ) : (m.bind f).bind h = m.bind fun a => (f a).bind h := by
  funext st
  unfold M.bind
  cases m st <;> rfl
/-- the items' judgements -/
inductive AllPE (X : Cx) (Z : Z0) (W : WX) (G : Env) (sub : Sub) : List E → List Expr → Prop where
  | nil : AllPE X Z W G sub [] []
  | cons {a : E} {x : Expr} {as : List E} {xs : List Expr} (hs : notStar x = true) (h : PE X x (tE X.K Z W (evE G sub a))) (r : AllPE X Z W G sub as xs) : AllPE X Z W G sub (a :: as) (x :: xs)
theorem evalEach_cons (e : Expr) (es : List Expr) (env : PySem.Env) : evalEach (e :: es) env = eval e env :: evalEach es env := by first | rfl | simp [evalEach]
/-- a o1 b o2 c .. -/
theorem chn_run {X : Cx} {W : WX} (un : X.A.units + 65 < cLine) {pos : Pos} {ss : List S} {σ : L2.St} {pins : List (Addr × Obj)} {Q : VK} : ∀ {es : List E} {ys : List Expr}, AllPE X Z W G sub es ys → ∀ {os : List CmpOp} {x : V} {v : Value} {r : R} {F : Fz} {H H0 : Hp} {s : Shared}, os.length = es.length →
    Inv X pins σ H s → Rel X.K Z F ss σ H → RelV x v → RepR X.K H0 F H r x → PostE X.K Z W (evCh G sub r os es ss) F H σ Q → wpAny (model X.prog X.w) X.A (compareChain pos v os (evalEach ys X.env)) (EP X pins σ Q) X.xe s
  | _, _, .nil, os, x, v, r, F, H, H0, s, hl, I, rel, rv, rr, p => by
    cases os with
    | nil => unfold evCh at p; exact (show False from p).elim
    | cons _ _ => simp at hl
  | _, _, .cons (a := a) (x := y) (as := as) (xs := ys) hs h t, os, x, v, r, F, H, H0, s, hl, I, rel, rv, rr, p => by
    rw [evalEach_cons]
    cases os with
    | nil => simp at hl
    | cons o os =>
      cases os with
      | nil =>
        cases t with
        | cons _ _ _ => simp at hl
        | nil =>
          unfold evCh at p
          have e0 : evalEach [] X.env = [] := by first | rfl | simp [evalEach]
          rw [e0]
          refine chain_last (thn (h.run pins s σ H (fun w H1 => ∃ F1 ry, Ext X.K F H F1 H1 ∧ RepR X.K H F1 H1 ry w ∧ PostE X.K Z W (cmpD o r.view ry.view) F1 H1 σ Q) I ⟨F, ss, rel, (PostE.bind p).toE fun ry F1 H1 w e1 x1 p1 q1 => ⟨F1, ry, x1, q1, p1⟩⟩) fun u s1 ⟨w, H1, I1, ru, F1, ry, x1, q1, p1⟩ => ?_)
          exact op_cmpD (Z := Z) (W := W) un o pins s1 σ H1 x w v u Q I1 rv ru ⟨F1, σ, r.view, ry.view, x1.ok, RepR.view x1.ok (RepR.ext x1 rr), RepR.view x1.ok q1, p1⟩
      | cons o' os =>
        cases t with
        | nil => simp at hl
        | @cons a2 y2 as2 ys2 hs2 h2 t2 =>
          unfold evCh at p
          rw [evalEach_cons]
          refine chain_link (thn (h.run pins s σ H (fun w H1 => ∃ F1 ry, Ext X.K F H F1 H1 ∧ RepR X.K H F1 H1 ry w ∧ PostE X.K Z W ((cmpD o r.view ry.view).bind fun z => (asBool z).bind fun t => if t then evCh G sub ry (o' :: os) (a2 :: as2) ss else .ok (.val (.bl false))) F1 H1 σ Q) I
            ⟨F, ss, rel, (PostE.bind p).toE fun ry F1 H1 w e1 x1 p1 q1 => ⟨F1, ry, x1, q1, p1⟩⟩) fun u s1 ⟨w, H1, I1, ru, F1, ry, x1, q1, p1⟩ => ?_)
          refine thn (op_cmpD (Z := Z) (W := W) un o pins s1 σ H1 x w v u (fun zv H2 => ∃ F2 tt, Ext X.K F1 H1 F2 H2 ∧ zv = .bl tt ∧ PostE X.K Z W (if tt then evCh G sub ry (o' :: os) (a2 :: as2) ss else .ok (.val (.bl false))) F2 H2 σ Q) I1 rv ru ⟨F1, σ, r.view, ry.view, x1.ok, RepR.view x1.ok (RepR.ext x1 rr), RepR.view x1.ok q1,
            (PostE.bind p1).toE fun z F2 H2 zv e2 x2 p2 q2 => ?_⟩) fun c s2 ⟨zv, H2, I2, rc, F2, tt, x2, ez, p2⟩ => ?_
          · obtain ⟨tt, rfl, pn⟩ := asBool_ok (P := fun m => PostE X.K Z W m F2 H2 σ Q) p2 (fun z => z)
            have q' : Rep X.K F2 (.bl tt) zv := q2
            unfold Rep at q'
            exact ⟨F2, tt, x2, q', pn⟩
          · subst ez
            cases rc
            refine wpAny_truthy_bool ?_
            cases tt with
            | false => exact ite_ff ⟨.bl false, H2, I2, rfl, PostE.val p2 x2.ok repBl⟩
            | true =>
              have e9 : evalEach (y2 :: ys2) X.env = eval y2 X.env :: evalEach ys2 X.env := evalEach_cons _ _ _
              rw [← e9]
              exact ite_tt (chn_run un (.cons hs2 h2 t2) (by simpa using hl) I2 ((rel.grow x1).grow x2) ru (RepR.ext x2 q1) p2)
theorem chn_ok {X : Cx} {W : WX} {a : E} {os : List CmpOp} {es : List E} {x : Expr} {o p : CmpOp} {ops : List CmpOp} {y z : Expr} {ys : List Expr} {pos : Pos} (un : X.A.units + 65 < cLine) (A : PE X x (tE X.K Z W (evE G sub a))) (B : AllPE X Z W G sub es (y :: z :: ys)) (ho : o :: p :: ops = os) (hl : os.length = es.length) (hm : lastMarks (o :: p :: ops) (y :: z :: ys) = false) :
    PE X (.Compare x (o :: p :: ops) (y :: z :: ys) pos) (tE X.K Z W (evE G sub (.chn a os es))) := by
  refine ⟨fun pins s σ H Q I q => ?_⟩
  obtain ⟨F, ss, rel, q⟩ := q
  unfold evE at q
  refine Compare_chain (thn (A.run pins s σ H (fun w H1 => ∃ F1 ry, Ext X.K F H F1 H1 ∧ RepR X.K H F1 H1 ry w ∧ PostE X.K Z W (evCh G sub ry os es ss) F1 H1 σ Q) I ⟨F, ss, rel, (PostE.bind q).toE fun ry F1 H1 w e1 x1 p1 q1 => ⟨F1, ry, x1, q1, p1⟩⟩) fun u s1 ⟨w, H1, I1, ru, F1, ry, x1, q1, p1⟩ => ?_) hm
  rw [← evalEach_cons, ← evalEach_cons, ho]
  exact chn_run un B hl I1 (rel.grow x1) ru q1 p1
/-- .. as a test -/
theorem chn_runT {X : Cx} {W : WX} (un : X.A.units + 65 < cLine) {pos : Pos} {ss : List S} {σ : L2.St} {pins : List (Addr × Obj)} {Q : Bool → Hp → Prop} : ∀ {es : List E} {ys : List Expr}, AllPE X Z W G sub es ys → ∀ {os : List CmpOp} {x : V} {v : Value} {r : R} {F : Fz} {H H0 : Hp} {s : Shared}, os.length = es.length →
    Inv X pins σ H s → Rel X.K Z F ss σ H → RelV x v → RepR X.K H0 F H r x → PostE X.K Z W (evCh G sub r os es ss) F H σ (fun v H1 => ∃ b, v = .bl b ∧ Q b H1) → wpAny (model X.prog X.w) X.A (testChain pos v os (evalEach ys X.env)) (fun b s' => ∃ H', Inv X pins σ H' s' ∧ Q b H') X.xe s
  | _, _, .nil, os, x, v, r, F, H, H0, s, hl, I, rel, rv, rr, p => by
    cases os with
    | nil => unfold evCh at p; exact (show False from p).elim
    | cons _ _ => simp at hl
  | _, _, .cons (a := a) (x := y) (as := as) (xs := ys) hs h t, os, x, v, r, F, H, H0, s, hl, I, rel, rv, rr, p => by
    rw [evalEach_cons]
    cases os with
    | nil => simp at hl
    | cons o os =>
      cases os with
      | nil =>
        cases t with
        | cons _ _ _ => simp at hl
        | nil =>
          unfold evCh at p
          have e0 : evalEach [] X.env = [] := by first | rfl | simp [evalEach]
          rw [e0]
          refine test_last (thn (h.run pins s σ H (fun w H1 => ∃ F1 ry, Ext X.K F H F1 H1 ∧ RepR X.K H F1 H1 ry w ∧ PostE X.K Z W (cmpD o r.view ry.view) F1 H1 σ (fun v H1 => ∃ b, v = .bl b ∧ Q b H1)) I ⟨F, ss, rel, (PostE.bind p).toE fun ry F1 H1 w e1 x1 p1 q1 => ⟨F1, ry, x1, q1, p1⟩⟩) fun u s1 ⟨w, H1, I1, ru, F1, ry, x1, q1, p1⟩ => ?_)
          refine thn (op_cmpD (Z := Z) (W := W) un o pins s1 σ H1 x w v u _ I1 rv ru ⟨F1, σ, r.view, ry.view, x1.ok, RepR.view x1.ok (RepR.ext x1 rr), RepR.view x1.ok q1, p1⟩) fun d s2 ⟨z2, H2, I2, r2, k2, e2, q2⟩ => ?_
          subst e2
          cases r2
          exact wpAny_truthy_bool ⟨H2, I2, q2⟩
      | cons o' os =>
        cases t with
        | nil => simp at hl
        | @cons a2 y2 as2 ys2 hs2 h2 t2 =>
          unfold evCh at p
          rw [evalEach_cons]
          refine test_link (thn (h.run pins s σ H (fun w H1 => ∃ F1 ry, Ext X.K F H F1 H1 ∧ RepR X.K H F1 H1 ry w ∧ PostE X.K Z W ((cmpD o r.view ry.view).bind fun z => (asBool z).bind fun t => if t then evCh G sub ry (o' :: os) (a2 :: as2) ss else .ok (.val (.bl false))) F1 H1 σ (fun v H1 => ∃ b, v = .bl b ∧ Q b H1)) I
            ⟨F, ss, rel, (PostE.bind p).toE fun ry F1 H1 w e1 x1 p1 q1 => ⟨F1, ry, x1, q1, p1⟩⟩) fun u s1 ⟨w, H1, I1, ru, F1, ry, x1, q1, p1⟩ => ?_)
          refine thn (op_cmpD (Z := Z) (W := W) un o pins s1 σ H1 x w v u (fun zv H2 => ∃ F2 tt, Ext X.K F1 H1 F2 H2 ∧ zv = .bl tt ∧ PostE X.K Z W (if tt then evCh G sub ry (o' :: os) (a2 :: as2) ss else .ok (.val (.bl false))) F2 H2 σ (fun v H1 => ∃ b, v = .bl b ∧ Q b H1)) I1 rv ru ⟨F1, σ, r.view, ry.view, x1.ok, RepR.view x1.ok (RepR.ext x1 rr), RepR.view x1.ok q1,
            (PostE.bind p1).toE fun z F2 H2 zv e2 x2 p2 q2 => ?_⟩) fun c s2 ⟨zv, H2, I2, rc, F2, tt, x2, ez, p2⟩ => ?_
          · obtain ⟨tt, rfl, pn⟩ := asBool_ok (P := fun m => PostE X.K Z W m F2 H2 σ (fun v H1 => ∃ b, v = .bl b ∧ Q b H1)) p2 (fun z => z)
            have q' : Rep X.K F2 (.bl tt) zv := q2
            unfold Rep at q'
            exact ⟨F2, tt, x2, q', pn⟩
          · subst ez
            cases rc
            refine wpAny_truthy_bool ?_
            cases tt with
            | false =>
              obtain ⟨b, eb, qb⟩ := PostE.val p2 x2.ok repBl
              cases eb
              exact ite_ff ⟨H2, I2, qb⟩
            | true =>
              have e9 : evalEach (y2 :: ys2) X.env = eval y2 X.env :: evalEach ys2 X.env := evalEach_cons _ _ _
              rw [← e9]
              exact ite_tt (chn_runT un (.cons hs2 h2 t2) (by simpa using hl) I2 ((rel.grow x1).grow x2) ru (RepR.ext x2 q1) p2)
theorem chnT_ok {X : Cx} {W : WX} {a : E} {os : List CmpOp} {es : List E} {x : Expr} {o p : CmpOp} {ops : List CmpOp} {y z : Expr} {ys : List Expr} {pos : Pos} (un : X.A.units + 65 < cLine) (A : PE X x (tE X.K Z W (evE G sub a))) (B : AllPE X Z W G sub es (y :: z :: ys)) (ho : o :: p :: ops = os) (hl : os.length = es.length) (hm : lastMarks (o :: p :: ops) (y :: z :: ys) = false) :
    PT X (.Compare x (o :: p :: ops) (y :: z :: ys) pos) (tB X.K Z W fun ss => (evE G sub (.chn a os es) ss).bind asBool) := by
  refine ⟨fun pins s σ H Q I q => ?_⟩
  obtain ⟨F, ss, rel, q⟩ := tB_of q
  unfold evE at q
  refine isTrue_chain (thn (A.run pins s σ H (fun w H1 => ∃ F1 ry, Ext X.K F H F1 H1 ∧ RepR X.K H F1 H1 ry w ∧ PostE X.K Z W (evCh G sub ry os es ss) F1 H1 σ (fun v H1 => ∃ b, v = .bl b ∧ Q b H1)) I ⟨F, ss, rel, (PostE.bind q).toE fun ry F1 H1 w e1 x1 p1 q1 => ⟨F1, ry, x1, q1, p1⟩⟩) fun u s1 ⟨w, H1, I1, ru, F1, ry, x1, q1, p1⟩ => ?_) hm
  rw [← evalEach_cons, ← evalEach_cons, ho]
  exact chn_runT un B hl I1 (rel.grow x1) ru q1 p1
theorem strR_ok {α : Type} {r : R} {f : Str → M α} {P : M α → Prop} (h : P ((strR r).bind f)) (nb : ¬ P .bad) : ∃ b, r = .val (.str b) ∧ P (f b) := by
  unfold strR at h
  split at h
  · exact ⟨_, rfl, h⟩
  · exact absurd h nb
/-- a or b, a a text -/
theorem orV_ok {X : Cx} {W : WX} {a b : E} {x y : Expr} {pos : Pos} (A : PE X x (tE X.K Z W (evE G sub a))) (B : PE X y (tE X.K Z W (evE G sub b))) : PE X (.BoolOp .Or [x, y] pos) (tE X.K Z W (evE G sub (.orV a b))) := by
  refine ⟨fun pins s σ H Q I q => ?_⟩
  obtain ⟨F, ss, rel, q⟩ := q
  unfold evE at q
  refine BoolOp_or (thn (A.run pins s σ H (fun w H1 => ∃ F1 z, Ext X.K F H F1 H1 ∧ w = .str z ∧ PostE X.K Z W (if z.length = 0 then evE G sub b ss else guardM (decide (z.length ≤ line)) (.ok (.val (.str z)))) F1 H1 σ Q) I ⟨F, ss, rel, (PostE.bind q).toE fun ry F1 H1 w e1 x1 p1 q1 => ?_⟩) fun u s1 ⟨w, H1, I1, ru, F1, z, x1, ew, p1⟩ => ?_)
  · obtain ⟨z, rfl, pn⟩ := strR_ok (P := fun m => PostE X.K Z W m F1 H1 σ Q) p1 (fun z => z)
    have q' : Rep X.K F1 (.str z) w := q1
    unfold Rep at q'
    exact ⟨F1, z, x1, q', pn⟩
  · subst ew
    obtain ⟨t, rfl⟩ := ru
    by_cases hz : z.length = 0
    · rw [if_pos hz] at p1
      refine P.truthy_str (by omega) ?_
      have e : ((z.length : Int) != 0) = false := by rw [hz]; rfl
      rw [e]
      exact ite_ff (BoolOp_one (B.run pins _ σ H1 Q (I1.tok _) ⟨F1, ss, rel.grow x1, p1⟩))
    · rw [if_neg hz] at p1
      obtain ⟨c, p1⟩ := guardM_ok (P := fun m => PostE X.K Z W m F1 H1 σ Q) p1 (fun z => z)
      have c' := of_decide_eq_true c
      refine P.truthy_str (by have : line = 16777216 := rfl; omega) ?_
      have e : ((z.length : Int) != 0) = true := by simpa using hz
      rw [e]
      exact ite_tt ⟨.str z, H1, I1.tok _, ⟨t, rfl⟩, PostE.val p1 x1.ok repStr⟩
/-! ### methods of texts -/
theorem strsOf_map {K : PySem.W.Frag} {F : Fz} : ∀ {xs : List D} {vs : List V} {bs : List Str}, Reps K F xs vs → strsOf xs = some bs → vs = bs.map V.str
  | [], vs, bs, h, e => by unfold Reps at h; subst h; cases e; rfl
  | x :: xs, vs, bs, h, e => by
    unfold Reps at h
    obtain ⟨v, r, rfl, a, b⟩ := h
    cases x with
    | str q =>
      unfold strsOf at e
      cases z : strsOf xs with
      | none => rw [z] at e; cases e
      | some ws =>
        rw [z] at e; cases e
        unfold Rep at a; subst a
        rw [strsOf_map b z]; rfl
    | _ => unfold strsOf at e; cases e
theorem reps_strs {K : PySem.W.Frag} {F : Fz} : ∀ ns : List Str, Reps K F (ns.map D.str) (ns.map V.str)
  | [] => Reps.nil
  | n :: ns => Reps.cons repStr (reps_strs ns)
def smId : Sm → String
  | .split => "str.split" | .splitn => "str.split" | .part => "str.partition" | .join => "str.join" | .upper => "str.upper" | .find => "str.find"
theorem sm_slot : ∀ m : Sm, Slot "str" (smName m) (smId m)
  | .split => F.slot_str_split | .splitn => F.slot_str_split | .part => F.slot_str_partition | .join => F.slot_str_join | .upper => F.slot_str_upper | .find => F.slot_str_find
theorem sm_type : ∀ m : Sm, typeOf (.builtin (smId m)) = pure (.type "method_descriptor")
  | .split => F.type_str_split | .splitn => F.type_str_split | .part => F.type_str_partition | .join => F.type_str_join | .upper => F.type_str_upper | .find => F.type_str_find
def rSm (K : PySem.W.Frag) (Z : Z0) (W : WX) (m : Sm) : V → List V → Hp → VK → Prop := fun x vs H Q => ∃ z F σ ds, x = .str z ∧ Ok K F H ∧ Paired (View K F H) ds vs ∧ PostE K Z W (smD m z ds) F H σ Q
theorem use2 {X : Cx} {id : String} {r : V → List V → Hp → VK → Prop} (h : MtR X id r) {pins : List (Addr × Obj)} {s : Shared} {σ : L2.St} {H : Hp} {x : V} {xs : List V} {v : Value} {us : List Value} {Q : VK} (I : Inv X pins σ H s) (rx : RelV x v) (rs : Vals xs us) (q : r x xs H Q) :
    wpAny (model X.prog X.w) X.A (call (.builtin id) (v :: us)) (EP X pins σ Q) X.xe s := h pins s σ H x xs v us Q I rx rs q
theorem mt_D {X : Cx} {W : WX} (m : Sm) : MtR X (smId m) (rSm X.K Z W m) := by
  intro pins s σ H x xs v us Q I rx rs h
  obtain ⟨z, F, σ', ds, rfl, sf, hv, p⟩ := h
  unfold smD at p
  split at p
  · obtain ⟨v1, rfl, h1⟩ := pair1 hv
    cases h1.str
    obtain ⟨c, p⟩ := guardM_ok (P := fun m => PostE X.K Z W m F H σ' Q) p (fun z => z)
    simp only [Bool.and_eq_true, Bool.not_eq_true', decide_eq_true_eq] at c
    exact use2 mt_split I rx rs ⟨_, _, rfl, rfl, c.1, by rw [← line_eq]; exact c.2, fun q nq => p.own sf (reps_strs _) q nq⟩
  · obtain ⟨v1, v2, rfl, h1, h2⟩ := pair2 hv
    cases h1.str; cases h2.int
    obtain ⟨c, p⟩ := guardM_ok (P := fun m => PostE X.K Z W m F H σ' Q) p (fun z => z)
    simp only [Bool.and_eq_true, Bool.not_eq_true', decide_eq_true_eq] at c
    exact use2 mt_splitMax I rx rs ⟨_, _, _, rfl, rfl, c.1.1.1, by omega, by omega, by rw [← line_eq]; exact c.1.1.2, fun q nq => p.own sf (reps_strs _) q nq⟩
  · obtain ⟨v1, rfl, h1⟩ := pair1 hv
    cases h1.str
    obtain ⟨c, p⟩ := guardM_ok (P := fun m => PostE X.K Z W m F H σ' Q) p (fun z => z)
    simp only [Bool.and_eq_true, Bool.not_eq_true', decide_eq_true_eq] at c
    exact use2 mt_partition I rx rs ⟨_, _, rfl, rfl, c.1, by rw [← line_eq]; exact c.2, fun q nq => p.tup sf (Reps.cons repStr (Reps.cons repStr (Reps.cons repStr Reps.nil))) q nq⟩
  · obtain ⟨v1, rfl, h1⟩ := pair1 hv
    obtain ⟨a, ws, rfl, ha, ra⟩ := h1.lst
    unfold joinD at p
    obtain ⟨ys, en, p⟩ := M.ofO_ok (P := fun m => PostE X.K Z W m F H σ' Q) p (fun z => z)
    obtain ⟨c, p⟩ := guardM_ok (P := fun m => PostE X.K Z W m F H σ' Q) p (fun z => z)
    have e := strsOf_map ra en
    subst e
    exact use2 mt_join I rx rs ⟨_, _, ys, rfl, rfl, .inl (SqL.of ha), of_decide_eq_true c, p.val sf repStr⟩
  · obtain ⟨v1, rfl, h1⟩ := pair1 hv
    obtain ⟨a, ws, rfl, ha, ra⟩ := h1.tup sf
    unfold joinD at p
    obtain ⟨ys, en, p⟩ := M.ofO_ok (P := fun m => PostE X.K Z W m F H σ' Q) p (fun z => z)
    obtain ⟨c, p⟩ := guardM_ok (P := fun m => PostE X.K Z W m F H σ' Q) p (fun z => z)
    have e := strsOf_map ra en
    subst e
    exact use2 mt_join I rx rs ⟨_, _, ys, rfl, rfl, .inr ha, of_decide_eq_true c, p.val sf repStr⟩
  · cases hv
    obtain ⟨c, p⟩ := guardM_ok (P := fun m => PostE X.K Z W m F H σ' Q) p (fun z => z)
    exact use2 mt_upper I rx rs ⟨_, rfl, rfl, of_decide_eq_true c, p.val sf repStr⟩
  · obtain ⟨v1, rfl, h1⟩ := pair1 hv
    cases h1.str
    exact use2 mt_find I rx rs ⟨_, _, rfl, rfl, p.val sf repInt⟩
  · exact (show False from p).elim
theorem AllPE.pa {X : Cx} {W : WX} : ∀ {as : List E} {es : List Expr}, AllPE X Z W G sub as es → PA X es (tRs X.K Z W (evs G sub as))
  | _, _, .nil => PA.imp pa_nil fun σ H Q ⟨F, ss, rel, p⟩ => by unfold evs at p; exact p F H rfl (Ext.refl rel.ok) [] .nil
  | _, _, .cons hs h r => by
    refine PA.imp (pa_cons h r.pa (starEach_of hs)) fun σ H Q ⟨F, ss, rel, p⟩ => ⟨F, ss, rel, ?_⟩
    unfold evs at p
    refine PostM.toE (PostM.bind p) fun r F1 H1 v e1 x1 p1 q => ⟨F1, ss, rel.grow x1, ?_⟩
    refine (PostM.bind p1).mono fun rs F2 H2 e2 x2 p2 vs qs => ?_
    exact p2 F2 H2 rfl (Ext.refl x2.ok) (v :: vs) (.cons (RepR.ext x2 q) (Paired.mapP qs fun _ _ z => RepR.back (fun _ => x1.free) z))
theorem few_ok {es : List Expr} {env : PySem.Env} {pos : Pos} (hs : es.all notStar = true) (hn : es.length < 20) :
    ((backTo pos (starEach es env)).all (fun x => !x.1) && (backToKw pos (keywordEach [] env)).all (fun x => x.1.isSome) && decide (es.length + ([] : List Keyword).length + (if ([] : List Keyword).isEmpty then 0 else 1) < 30)) = true := by
  have h1 : (backTo pos (starEach es env)).all (fun x => !x.1) = true := by
    have h := starEach_any (env := env) (pos := pos) hs
    rw [List.all_eq_true]
    intro x hx
    have := List.any_eq_false.mp h x hx
    simpa using this
  have h2 : (backToKw pos (keywordEach [] env)).all (fun x => x.1.isSome) = true := rfl
  rw [h1, h2]
  simp
  omega
theorem sm_ok {X : Cx} {W : WX} {m : Sm} {a : E} {es : List E} {o : Expr} {xs : List Expr} {apos pos : Pos} (A : PE X o (tE X.K Z W (evE G sub a))) (B : AllPE X Z W G sub es xs) (hb : notSup o = true) (hl : (apos.endLine == pos.line) = true) (hn : xs.length < 20) (hs : xs.all notStar = true) :
    PE X (.Call (.Attribute o (smName m) apos) xs [] pos) (tE X.K Z W (evE G sub (.sm m a es))) := by
  have pb := B.pa
  cases xs with
  | nil =>
    cases B
    refine PE.imp (pe_bm0 (apos := apos) (cpos := pos) F.plainAttrs_str (sm_slot m) (sm_type m) (mt_D (Z := Z) (W := W) m) A (notSup_of hb) hl) fun σ H Q ⟨F, ss, rel, p⟩ => ⟨F, ss, rel, ?_⟩
    unfold evE at p
    refine (PostE.bind p).toE fun r F1 H1 v e1 x1 p1 q => ?_
    obtain ⟨z, rfl, pn⟩ := strR_ok (P := fun m => PostE X.K Z W m F1 H1 σ Q) p1 (fun z => z)
    have q' : Rep X.K F1 (.str z) v := q
    unfold Rep at q'
    subst q'
    unfold evs at pn
    exact ⟨rfl, z, F1, σ, [], rfl, x1.ok, .nil, pn⟩
  | cons x xs =>
    have hs' := hs
    rw [List.all_cons, Bool.and_eq_true] at hs'
    refine PE.imp (pe_bm (apos := apos) (cpos := pos) F.plainAttrs_str (sm_slot m) (sm_type m) (mt_D (Z := Z) (W := W) m) A pb (notSup_of hb) (few_ok hs hn) hl (starEach_of hs'.1) (starEach_any hs'.2)) fun σ H Q ⟨F, ss, rel, p⟩ => ⟨F, ss, rel, ?_⟩
    unfold evE at p
    refine (PostE.bind p).toE fun r F1 H1 v e1 x1 p1 q => ?_
    obtain ⟨z, rfl, pn⟩ := strR_ok (P := fun m => PostE X.K Z W m F1 H1 σ Q) p1 (fun z => z)
    have q' : Rep X.K F1 (.str z) v := q
    unfold Rep at q'
    subst q'
    refine ⟨rfl, F1, ss, rel.grow x1, (PostE.bind pn).mono fun rs F2 H2 e2 x2 p2 vs qs => ?_⟩
    exact ⟨z, F2, σ, _, rfl, x2.ok, reps_of x2.ok qs, p2⟩
end
end EV

set_option Elab.async false
set_option linter.all false
set_option autoImplicit false
set_option maxRecDepth 100000
set_option maxHeartbeats 16000000
/-! EwBb: f'..', list(range(..)), len(set(..)), pop. -/
namespace EV
open PySem PySem.Spec PyProof.Rows L2
section
variable {St : Stc} {Z : Z0} {G : Env} {sub : Sub} {k : Nat} {calm : Bool}
theorem PostE.cast {K : PySem.W.Frag} {W : WX} {m m' : M R} {F : Fz} {H : Hp} {σ : L2.St} {Q : VK} (p : PostE K Z W m F H σ Q) (e : m = m') : PostE K Z W m' F H σ Q := e ▸ p
/-- the parts of f'..' -/
inductive AllJ (X : Cx) (Z : Z0) (W : WX) (G : Env) (sub : Sub) : List E → List Expr → Prop where
  | nil : AllJ X Z W G sub [] []
  | fmt {a : E} {x : Expr} {p : Pos} {as : List E} {xs : List Expr} (h : PE X x (tE X.K Z W (evE G sub a))) (r : AllJ X Z W G sub as xs) : AllJ X Z W G sub (a :: as) (.FormattedValue x (-1) none p :: xs)
  | str {s : Str} {x : Expr} {as : List E} {xs : List Expr} (h : PE X x (fun _ H Q => Q (.str s) H)) (r : AllJ X Z W G sub as xs) : AllJ X Z W G sub (.k (.str s) :: as) (x :: xs)
theorem fmtD_ok {K : PySem.W.Frag} {W : WX} {d : D} {x : V} {F : Fz} {H : Hp} {σ : L2.St} {Q : VK} {f : Str → M R} (vw : View K F H d x) (p : PostE K Z W ((fmtD d).bind f) F H σ Q) : ∃ y, PostE K Z W (f y) F H σ Q ∧ ((x = .str y ∧ y.length ≤ sizeLine) ∨ ∃ i : Int, x = .int i ∧ i.natAbs.log2 < 1920 ∧ y = Str.ofString (toString i)) := by
  cases d with
  | str y =>
    cases vw.str
    unfold fmtD at p
    dsimp only at p
    by_cases c : y.length ≤ line
    · have e : guardM (α := Str) (decide (y.length ≤ line)) (.ok y) = .ok y := by unfold guardM; rw [if_pos (decide_eq_true c)]
      rw [e] at p
      exact ⟨y, p, .inl ⟨rfl, by rw [← line_eq]; exact c⟩⟩
    · have e : guardM (α := Str) (decide (y.length ≤ line)) (.ok y) = .bad := by unfold guardM; rw [if_neg (by simpa using c)]
      rw [e] at p
      exact (show False from p).elim
  | int i =>
    cases vw.int
    unfold fmtD at p
    dsimp only at p
    by_cases c : i.natAbs.log2 < 1920
    · have e : guardM (α := Str) (decide (i.natAbs.log2 < 1920)) (.ok (Str.ofString (toString i))) = .ok (Str.ofString (toString i)) := by unfold guardM; rw [if_pos (decide_eq_true c)]
      rw [e] at p
      exact ⟨_, p, .inr ⟨i, rfl, c, rfl⟩⟩
    · have e : guardM (α := Str) (decide (i.natAbs.log2 < 1920)) (.ok (Str.ofString (toString i))) = .bad := by unfold guardM; rw [if_neg (by simpa using c)]
      rw [e] at p
      exact (show False from p).elim
  | _ => exact (show False from p).elim
theorem fs_run {X : Cx} {W : WX} : ∀ {es : List E} {xs : List Expr}, AllJ X Z W G sub es xs → ∃ ts, PJ X xs ts ∧ ∀ (acc : Str) (F : Fz) (ss : List S) (σ : L2.St) (H : Hp) (Q : VK), Rel X.K Z F ss σ H → PostE X.K Z W (evJ G sub es acc ss) F H σ Q → tJs ts acc σ H fun out H1 => Q (.str out) H1
  | _, _, .nil => ⟨[], .nil, fun acc F ss σ H Q rel p => by unfold evJ at p; exact PostE.val p rel.ok repStr⟩
  | _, _, .fmt (a := a) h r => by
    obtain ⟨ts, j, k⟩ := fs_run r
    refine ⟨_ :: ts, .cons (pe_fmt h) j, fun acc F ss σ H Q rel p => ⟨F, ss, rel, ?_⟩⟩
    unfold evJ at p
    refine (PostE.bind p).toE fun r F1 H1 v e1 x1 p1 q => ?_
    obtain ⟨y, p2, q2⟩ := fmtD_ok (RepR.view x1.ok q) p1
    obtain ⟨c, p3⟩ := guardM_ok (P := fun m => PostE X.K Z W m F1 H1 σ Q) p2 (fun z => z)
    have go : ∃ y' : Str, V.str y = .str y' ∧ (acc ++ y').length ≤ sizeLine ∧ tJs ts (acc ++ y') σ H1 fun out H1 => Q (.str out) H1 := ⟨y, rfl, by rw [← line_eq]; exact of_decide_eq_true c, k _ F1 ss σ H1 Q (rel.grow x1) p3⟩
    rcases q2 with ⟨e, hz⟩ | ⟨i, e, hi, e2⟩
    · exact .inl ⟨y, e, hz, go⟩
    · exact .inr ⟨i, e, hi, by rw [← e2]; exact go⟩
  | _, _, .str (s := s) h r => by
    obtain ⟨ts, j, k⟩ := fs_run r
    refine ⟨_ :: ts, .cons h j, fun acc F ss σ H Q rel p => ?_⟩
    unfold evJ at p
    have e : evE G sub (.k (.str s)) ss = M.ok (.val (.str s)) := by rw [evE]
    rw [e] at p
    have p1 : PostE X.K Z W ((fmtD (.str s)).bind fun y => guardM (decide ((acc ++ y).length ≤ line)) (evJ G sub _ (acc ++ y) ss)) F H σ Q := p
    obtain ⟨y, p2, q2⟩ := fmtD_ok (K := X.K) (x := .str s) (show View X.K F H (.str s) (.str s) from (repStr (K := X.K) (F := F) (i := s) : Rep X.K F (.str s) (.str s))) p1
    obtain ⟨c, p3⟩ := guardM_ok (P := fun m => PostE X.K Z W m F H σ Q) p2 (fun z => z)
    rcases q2 with ⟨e, hz⟩ | ⟨i, e, _⟩
    · cases e
      exact ⟨s, rfl, by rw [← line_eq]; exact of_decide_eq_true c, k _ F ss σ H Q rel p3⟩
    · cases e
theorem fs_ok {X : Cx} {W : WX} {es : List E} {v w : Expr} {vs : List Expr} {pos : Pos} (A : AllJ X Z W G sub es (v :: w :: vs)) : PE X (.JoinedStr (v :: w :: vs) pos) (tE X.K Z W (evE G sub (.fs es))) := by
  obtain ⟨ts, j, k⟩ := fs_run A
  refine PE.imp (pe_joined j) fun σ H Q ⟨F, ss, rel, p⟩ => k _ F ss σ H Q rel ?_
  unfold evE at p
  exact p
/-! ### list(range(..)) -/
theorem reps_rng {K : PySem.W.Frag} {F : Fz} (lo hi : Int) : Reps K F (rngL lo hi) (rgV lo hi) := by
  unfold rngL rgV
  generalize List.range (hi - lo).toNat = l
  induction l with
  | nil => exact Reps.nil
  | cons x l ih => exact Reps.cons repInt ih
theorem lrngM_ok {K : PySem.W.Frag} {W : WX} {lo hi : Int} {F : Fz} {H : Hp} {σ : L2.St} {Q : VK} (ok : Ok K F H) (p : PostE K Z W (lrngM lo hi) F H σ Q) : RgOk lo hi ∧ ∀ q, H q = none → Q (.ref q) (upd H q (.lst (rgV lo hi))) := by
  unfold lrngM at p
  obtain ⟨c, p⟩ := guardM_ok (P := fun m => PostE K Z W m F H σ Q) p (fun z => z)
  unfold small at c
  simp only [Bool.and_eq_true, decide_eq_true_eq] at c
  refine ⟨⟨by omega, by omega, by omega, by omega, ?_⟩, fun q nq => p.own ok (reps_rng lo hi) q nq⟩
  have h := c.2
  have : line = 16777216 := rfl
  omega
theorem asInt_rep {K : PySem.W.Frag} {W : WX} {r : R} {f : Int → M R} {F : Fz} {H H0 : Hp} {σ : L2.St} {Q : VK} {v : V} (q : RepR K H0 F H r v) (p : PostE K Z W ((asInt r).bind f) F H σ Q) : ∃ i, v = .int i ∧ PostE K Z W (f i) F H σ Q := by
  obtain ⟨i, rfl, pn⟩ := asInt_ok (P := fun m => PostE K Z W m F H σ Q) p (fun z => z)
  have q' : Rep K F (.int i) v := q
  unfold Rep at q'
  exact ⟨i, q', pn⟩
theorem lrng1_ok {X : Cx} {W : WX} {a : E} {x : Expr} {p1 p2 p3 p4 : Pos} (hc : X.calm = true) (hg : Gl X "list") (hm : X.mg "list" = none) (hg2 : Gl X "range") (hm2 : X.mg "range" = none) (hs : notStar x = true) (A : PE X x (tE X.K Z W (evE G sub a))) :
    PE X (.Call (.Name "list" p1) [.Call (.Name "range" p2) [x] [] p3] [] p4) (tE X.K Z W (evE G sub (.lrng none a))) := by
  refine PE.imp (pe_listRg hc hg hm (prg_1 hg2 hm2 A (starEach_of hs)) rfl) fun σ H Q ⟨F, ss, rel, p⟩ => ⟨F, ss, rel, ?_⟩
  unfold evE at p
  unfold evO at p
  have p' : PostE X.K Z W ((evE G sub a ss).bind fun x => (asInt x).bind fun h => lrngM 0 h) F H σ Q := p
  refine (PostE.bind p').toE fun r F1 H1 v e1 x1 p1 q => ?_
  obtain ⟨i, e, pn⟩ := asInt_rep q p1
  exact ⟨i, e, lrngM_ok x1.ok pn⟩
theorem lrng2_ok {X : Cx} {W : WX} {a b : E} {x y : Expr} {p1 p2 p3 p4 : Pos} (hc : X.calm = true) (hg : Gl X "list") (hm : X.mg "list" = none) (hg2 : Gl X "range") (hm2 : X.mg "range" = none) (hs : notStar x = true) (hs2 : notStar y = true) (A : PE X x (tE X.K Z W (evE G sub a))) (B : PE X y (tE X.K Z W (evE G sub b))) :
    PE X (.Call (.Name "list" p1) [.Call (.Name "range" p2) [x, y] [] p3] [] p4) (tE X.K Z W (evE G sub (.lrng (some a) b))) := by
  refine PE.imp (pe_listRg hc hg hm (prg_2 hg2 hm2 A B (starEach_of hs) (starEach_of hs2) (starEach_any (by simp [hs2]))) rfl) fun σ H Q ⟨F, ss, rel, p⟩ => ⟨F, ss, rel, ?_⟩
  unfold evE at p
  unfold evO at p
  have p' : PostE X.K Z W ((evE G sub a ss).bind fun x => (asInt x).bind fun l => (evE G sub b ss).bind fun x => (asInt x).bind fun h => lrngM l h) F H σ Q := by
    rw [bind_assoc] at p
    refine p.cast ?_
    refine congrArg _ (funext fun r => ?_)
    rw [bind_assoc]
    rfl
  refine (PostE.bind p').toE fun r F1 H1 v e1 x1 p1 q => ?_
  obtain ⟨i, e, pn⟩ := asInt_rep q p1
  refine ⟨F1, ss, rel.grow x1, (PostE.bind pn).toE fun r2 F2 H2 v2 e2 x2 p2 q2 => ?_⟩
  obtain ⟨j, e', pn2⟩ := asInt_rep q2 p2
  exact ⟨i, j, e, e', lrngM_ok x2.ok pn2⟩
/-! ### len(set(..)) -/
theorem once_fold (ns : List Int) : ∀ acc, once acc ns = ns.foldl step_dedup acc := by
  induction ns with
  | nil => intro acc; rfl
  | cons n ns ih => intro acc; unfold once; rw [ih, List.foldl_cons]; rfl
theorem firstMet_once (ns : List Int) : firstMet (fun i => ns.getD i 0) ns.length = once [] ns := by
  rw [once_fold]
  unfold firstMet
  congr 1
  refine List.ext_getElem (by simp) fun i h1 h2 => ?_
  simp [List.getD_eq_getElem?_getD, List.getElem?_eq_getElem h2]
theorem lset_ok {X : Cx} {W : WX} {a : E} {x : Expr} {p1 p2 p3 p4 : Pos} (hc : X.calm = true) (hg : Gl X "len") (hm : X.mg "len" = none) (hg2 : Gl X "set") (hm2 : X.mg "set" = none) (hs : notStar x = true) (A : PE X x (tE X.K Z W (evE G sub a))) :
    PE X (.Call (.Name "len" p1) [.Call (.Name "set" p2) [x] [] p3] [] p4) (tE X.K Z W (evE G sub (.lset a))) := by
  have na : starEach [x] X.env = (false, eval x X.env) :: starEach [] X.env := starEach_of hs
  refine ⟨fun pins s σ H Q I q => ?_⟩
  obtain ⟨F, ss, rel, q⟩ := q
  unfold evE at q
  refine Call_ (ld_blt I hg hm PySem.boot_len ?_)
  refine PyProof.Rows.callWith_builtin1 (PyProof.Rows.args_cons ?_ rfl) rfl rfl
  refine Call_ (ld_blt I hg2 hm2 PyProof.Rows.boot_set ?_)
  refine PyProof.Rows.callWith_type1 (PyProof.Rows.args_cons (thn (A.run pins s σ H (fun v H1 => ∃ (l : Addr) (ns : List Int), v = V.ref l ∧ SqL X.K H1 l (ns.map V.int) ∧ ns.length ≤ 4000 ∧ Q (.int (once [] ns).length) H1) I ⟨F, ss, rel, (PostE.bind q).toE fun r F1 H1 v e1 x1 p1 q1 => ?_⟩) fun v s1 ⟨y, H1, I1, r1, q1⟩ => PyProof.Rows.args_nil ?_) na) na rfl
  · have vw := RepR.view x1.ok q1
    unfold lsetD at p1
    split at p1
    · rename_i xs heq
      rw [heq] at vw
      obtain ⟨l, ws, rfl, hl, rl⟩ := vw.lst
      obtain ⟨ns, en, p⟩ := M.ofO_ok (P := fun m => PostE X.K Z W m F1 H1 σ Q) p1 (fun z => z)
      obtain ⟨c, p⟩ := guardM_ok (P := fun m => PostE X.K Z W m F1 H1 σ Q) p (fun z => z)
      have e := intsOf_map rl en
      subst e
      exact ⟨l, ns, rfl, SqL.of hl, of_decide_eq_true c, p.val x1.ok repInt⟩
    · exact (show False from p1).elim
  · obtain ⟨l, ns, rfl, hq, h1, q1⟩ := q1
    cases r1
    obtain ⟨its, r, pl, hz⟩ := I1.list hq
    have hl : its.toArray.size = ns.length := by rw [List.size_toArray, ← r.length, List.length_map]
    refine call_set_list (I1.ok.hd hc) pl.isList (ns := ns) (by simpa using r.ints) (by unfold scanBound; omega) fun h' tk hS hk => ?_
    rw [hl, firstMet_once] at hS
    refine PyProof.Rows.args_nil ?_
    obtain ⟨o, es, ep, t, ho, hex, hd, _, _, _, hf, hn⟩ := hS
    have I2 : Inv X pins σ H1 { s1 with heap := h', toks := tk } := I1.kept fun b o e => hk b o (Heap.lt_size e) e
    have hle : (once [] ns).length ≤ ns.length := by rw [← firstMet_once]; exact firstMet_length_le _ _
    refine call_len_set ho hex hd hf (by rw [hn]; omega) ⟨.int (once [] ns).length, H1, I2.tok _, ⟨_, by rw [hn]⟩, q1⟩
/-! ### a.pop(..) -/
theorem popL_inv {d : D} {o : Option Int} {st : Store} : popL d o st = .bad ∨ ∃ n xs y ys, d = .obj n ∧ st[n]? = some (.lst xs) ∧ popAt xs o = some (y, ys) ∧ popL d o st = ((updL (.obj n) fun _ => some ys).bind fun _ => (M.ok (.val y) : M R)) st := by
  cases d with
  | obj n =>
    unfold popL M.get
    dsimp only
    cases e : st[n]? with
    | none => exact .inl rfl
    | some o' =>
      cases o' with
      | lst xs =>
        dsimp only
        cases e2 : popAt xs o with
        | none => exact .inl rfl
        | some p => obtain ⟨y, ys⟩ := p; exact .inr ⟨n, xs, y, ys, rfl, e, e2, rfl⟩
      | inst _ _ => exact .inl rfl
      | dic _ => exact .inl rfl
  | _ => exact .inl rfl
theorem popL_ok {K : PySem.W.Frag} {W : WX} {d : D} {o : Option Int} {x : V} {F : Fz} {H : Hp} {σ : L2.St} {Q : VK} (ok : Ok K F H) (rx : Rep K F d x) (p : PostE K Z W (popL d o) F H σ Q) : ∃ a vs xs y ys, x = .ref a ∧ H a = some (.lst vs) ∧ Reps K F xs vs ∧ popAt xs o = some (y, ys) ∧
    ∀ w ws, Rep K F y w → Reps K F ys ws → Q w (upd H a (.lst ws)) := by
  rcases popL_inv (d := d) (o := o) (st := F.st) with e | ⟨n, xs, y, ys, rfl, h1, h2, e⟩
  · unfold PostE PostM at p; rw [e] at p; exact p.elim
  · have p2 : PostE K Z W ((updL (.obj n) fun _ => some ys).bind fun _ => (M.ok (.val y) : M R)) F H σ Q := by
      unfold PostE PostM at p ⊢
      rw [e] at p
      exact p
    obtain ⟨a, vs, xs', ys', rfl, q1, q2, q3, q4⟩ := updL_ok ok rx (PostE.bind p2)
    cases q3
    obtain ⟨a', ea, vs', q5, q6⟩ := ok.ob n _ h1
    unfold Rep at rx
    obtain ⟨a2, e2, ha2⟩ := rx
    cases e2
    rw [ha2] at ea; cases ea
    rw [q1] at q5; cases q5
    refine ⟨a, vs, xs, y, ys, rfl, q1, q6, h2, fun w ws rw_ rws => ?_⟩
    obtain ⟨F', x', p'⟩ := q4 ws rws
    exact p' F' _ rfl (Ext.refl x'.ok) w (Rep.mono x'.le _ _ rw_)
theorem isLst_okE {K : PySem.W.Frag} {W : WX} {r : R} {g : Unit → M R} {F : Fz} {H H0 : Hp} {σ : L2.St} {Q : VK} {v : V} (ok : Ok K F H) (rv : RepR K H0 F H r v) (p : PostE K Z W ((isLst r.view).bind g) F H σ Q) : tyV K "list" v H ∧ (∃ n, r.view = .obj n) ∧ PostE K Z W (g ()) F H σ Q := by
  rcases isLst_inv (d := r.view) (st := F.st) with e | ⟨n, xs, e1, e2, e⟩
  · exact (PostM.isBad e p).elim
  · obtain ⟨a, vs, rfl, ha, h3, h4⟩ := ok.list e2 (view_rep e1 rv)
    exact ⟨.inl ⟨rfl, vs, SqL.of h3⟩, ⟨n, e1⟩, PostM.pure e p⟩
theorem popr0_ok {X : Cx} {W : WX} {a : E} {o : Expr} {apos pos : Pos} (A : PE X o (tE X.K Z W (evE G sub a))) (hb : notSup o = true) (hl : (apos.endLine == pos.line) = true) : PE X (.Call (.Attribute o "pop" apos) [] [] pos) (tE X.K Z W (evE G sub (.popr a none))) := by
  refine PE.imp (pe_bm0 (apos := apos) (cpos := pos) F.plainAttrs_list F.slot_list_pop F.type_list_pop mt_pop A (notSup_of hb) hl) fun σ H Q ⟨F, ss, rel, p⟩ => ⟨F, ss, rel, ?_⟩
  unfold evE at p
  refine (PostE.bind p).toE fun r F1 H1 v e1 x1 p1 q => ?_
  obtain ⟨t1, ⟨n, en⟩, p2⟩ := isLst_okE x1.ok q p1
  unfold evO at p2
  have p3 : PostE X.K Z W (popL (.obj n) none) F1 H1 σ Q := by rw [en] at p2; exact p2
  obtain ⟨l, vs, xs, y, ys, rfl, h1, h2, h3, h4⟩ := popL_ok x1.ok (view_rep en q) p3
  refine ⟨t1, ?_⟩
  unfold popAt at h3
  dsimp only at h3
  cases e : xs[xs.length - 1]? with
  | none => rw [e] at h3; cases h3
  | some y' =>
    rw [e] at h3
    cases h3
    obtain ⟨w, z1, z2⟩ := h2.get e
    exact ⟨l, vs, w, rfl, rfl, h1, by rw [← h2.length]; exact z1, h4 w _ z2 h2.dropLast⟩
theorem popr1_ok {X : Cx} {W : WX} {a b : E} {o x : Expr} {apos pos : Pos} (A : PE X o (tE X.K Z W (evE G sub a))) (B : PE X x (tE X.K Z W (evE G sub b))) (hs : notStar x = true) (hb : notSup o = true) (hl : (apos.endLine == pos.line) = true) : PE X (.Call (.Attribute o "pop" apos) [x] [] pos) (tE X.K Z W (evE G sub (.popr a (some b)))) := by
  refine PE.imp (pe_bm (apos := apos) (cpos := pos) F.plainAttrs_list F.slot_list_pop F.type_list_pop mt_popAt A (pa_cons B pa_nil (starEach_of hs)) (notSup_of hb) (by rw [starEach_of hs]; rfl) hl (starEach_of hs) rfl) fun σ H Q ⟨F, ss, rel, p⟩ => ⟨F, ss, rel, ?_⟩
  unfold evE at p
  refine (PostE.bind p).toE fun r F1 H1 v e1 x1 p1 q => ?_
  obtain ⟨t1, ⟨n, en⟩, p2⟩ := isLst_okE x1.ok q p1
  have rel1 := rel.grow x1
  unfold evO at p2
  have p3 : PostE X.K Z W ((evE G sub b ss).bind fun x => (asInt x).bind fun i => popL (.obj n) (some i)) F1 H1 σ Q := by
    rw [en, bind_assoc] at p2
    refine p2.cast ?_
    refine congrArg _ (funext fun r => ?_)
    rw [bind_assoc]
    rfl
  refine ⟨t1, F1, ss, rel1, (PostE.bind p3).toE fun r2 F2 H2 v2 e2 x2 p4 q2 => ?_⟩
  obtain ⟨i, rfl, p5⟩ := asInt_rep q2 p4
  obtain ⟨l, vs, xs, y, ys, rfl, h1, h2, h3, h4⟩ := popL_ok x2.ok (Rep.mono x2.le _ _ (view_rep en q)) p5
  unfold popAt at h3
  dsimp only at h3
  by_cases c : 0 ≤ i ∧ i < 4611686018427387904 ∧ i < xs.length
  · rw [if_pos c] at h3
    cases e : xs[i.toNat]? with
    | none => rw [e] at h3; cases h3
    | some y' =>
      rw [e] at h3
      cases h3
      obtain ⟨w, z1, z2⟩ := h2.get e
      refine ⟨l, vs, i, i.toNat, w, rfl, rfl, h1, by omega, by omega, ?_, z1, h4 w _ z2 (Reps.eraseIdx _ h2)⟩
      unfold seqIndex?
      rw [← h2.length]
      simp
      omega
  · rw [if_neg c] at h3; cases h3
end
end EV

set_option Elab.async false
set_option maxRecDepth 100000
set_option autoImplicit false
namespace EV
open PySem PySem.Spec PyProof.Rows L2
open Sem (wp)
open AutoSeq1 (wpAny_loadPart')
/-! enumerate(tuple) -/
theorem meets_enumerate_newT (v : Value) {o : Obj} {H : Heap → Prop} (B : Begins v o H) :
    Meets (Builtin.«enumerate.__new__» ⟨[.type "enumerate", v], []⟩) (fun _ R s => H s.heap ∧
      R (.ok (.ret (.ref (s.heap.push o).objs.size))) { s with heap := (s.heap.push o).push { cls := .type "enumerate", data := .fields #[.none, .bool false, .ref s.heap.objs.size, rawInt 0, .none, .none] } }) :=
  .of_wp fun prog w A R s h => by
    obtain ⟨hp, g, d, tk, os⟩ := s; obtain ⟨h1, h⟩ := h
    have hsub := sub_enumerate
    have q1 : ∀ {A' : Around} {E : Value → Shared → Prop} {Q : Value → Shared → Prop}, Q (.ref hp.objs.size) ⟨hp.push o, g, d, tk, os⟩ → wpAny (model prog w) A' (pyIter v) Q E ⟨hp, g, d, tk, os⟩ :=
      fun q => B.iter prog w _ _ ⟨hp, g, d, tk, os⟩ _ h1 q
    wp_walk using q1
    refine wpAny_stack_any fun st => wpAny_pure ?_
    split
    · rename_i c _ _ _ _ _
      cases (c == Value.type "enumerate")
      · wp_walk using q1
        exact ⟨_, rfl, h⟩
      · wp_walk using q1
        exact ⟨_, rfl, h⟩
    · wp_walk using q1
      exact ⟨_, rfl, h⟩
theorem call_enumerate_any {prog : Program} {w : World} {A : Around} {E : Value → Shared → Prop} {s : Shared} {v : Value} {o : Obj} {H : Heap → Prop} {Q : Value → Shared → Prop} (B : Begins v o H) (h1 : H s.heap)
    (h : ∀ h', IsEnum h' (s.heap.objs.size + 1) s.heap.objs.size 0 .none → h'.get? s.heap.objs.size = some o → h'.objs.size = s.heap.objs.size + 2 →
      (∀ b o, s.heap.get? b = some o → h'.get? b = some o) → Q (.ref (s.heap.objs.size + 1)) { s with heap := h' }) :
    wpAny (model prog w) A (call (.type "enumerate") [v]) Q E s := by
  refine callType_new F.called_enumerate (by decide) (F.typeCall_enumerate_1 _) (F.newCall_enumerate_1 _) (fun obj => F.args_object_init_2 obj _) F.entry_enumerate_new
    (meets_enumerate_newT v B) ⟨h1, ?_⟩
  have hz : (s.heap.push o).objs.size = s.heap.objs.size + 1 := Heap.size_push ..
  show _ ∧ _
  rw [hz]
  have he : IsEnum ((s.heap.push o).push { cls := .type "enumerate", data := .fields #[.none, .bool false, .ref s.heap.objs.size, rawInt 0, .none, .none] }) (s.heap.objs.size + 1) s.heap.objs.size 0 .none := by
    have := Heap.get?_push_size (s.heap.push o) (o := { cls := .type "enumerate", data := .fields #[.none, .bool false, .ref s.heap.objs.size, rawInt 0, .none, .none] }) rfl
    rw [hz] at this; exact this
  refine ⟨⟨_, he, rfl⟩, h _ he (Heap.get?_push_of_some _ (Heap.get?_push_size _ B.free)) (by rw [Heap.size_push, hz]) fun b o x => Heap.get?_push_of_some _ (Heap.get?_push_of_some _ x)⟩
theorem wpAny_pyNext_enumT_end {prog : Program} {w : World} {A : Around} {E : Value → Shared → Prop} {s : Shared} {e it t : Addr} {i : Nat} {n : Int} {items : Array Value} {old : Value} {Q : Option Value → Shared → Prop} (hh : A.handled = none)
    (he : IsEnum s.heap e it n old) (hit : s.heap.IsTupleIter it t i) (ht : s.heap.IsTuple t items) (hx : items[i]? = none)
    (hQ : ∀ h', Heap.ExtBut it s.heap h' → Q none { s with heap := h' }) : wpAny (model prog w) A (pyNext (.ref e)) Q E s := by
  have hT : s.TypeIs (.ref e) "enumerate" := ⟨_, he, rfl⟩
  unfold pyNext
  refine wpAny_bind (wpAny_attempt (wpAny_callSpecial?_slot (name := Str.ofString "__next__") hT F.slot_enumerate_next
    (wpAny_call_entry F.slot_enumerate_next hT F.entry_enumerate_next ?_ (F.args_enumerate_next_1 _))))
  show wpAny _ _ (field (.ref e) 2 >>= _) _ _ _
  refine wpAny_bind (wpAny_field he rfl (x := .ref it) rfl ?_)
  refine wpAny_bind (wpAny_nextOf_tuple_end hh hit ht hx fun h' x he' hx' => ?_)
  obtain ⟨o, ho, hc⟩ := hx'
  refine wpAny_bind (wpAny_isInstance (T := "StopIteration") (b := true) ⟨o, ho, hc⟩ isSubtype_stop ?_)
  exact wpAny_pure (hQ _ he')
/-- the tuple at a, each item in a new pair -/
def IteT (K : PySem.W.Frag) (a : Addr) : It :=
  ⟨fun i H => ∃ (xs : List V) (x : V), SqT K H a xs ∧ xs[i]? = some x, fun i H v H' => ∃ T x, v = .ref T ∧ H T = none ∧ H' = upd H T (.tup [.int (i : Nat), x]) ∧ ∀ xs, SqT K H a xs → xs[i]? = some x, fun i H => ∃ xs : List V, SqT K H a xs ∧ xs.length ≤ i⟩
theorem turn_enumT {P : Program} {w : World} {K : PySem.W.Frag} {elts : List Expr} {kk : Nat} {tpos : Pos} (a e it : Addr) :
    Turn P w K (.Tuple elts kk tpos) (IteT K a) [e, it] e (fun i h => (∃ old, IsEnum h e it ((i : Nat) : Int) old) ∧ h.IsTupleIter it a i ∧ e ≠ it ∧ a ≠ it ∧ a ≠ e) where
  mem := by simp
  obj := fun i h st b hb => by
    obtain ⟨⟨old, he⟩, ⟨o, ho, hc, hd⟩, _⟩ := st
    have e' : b = e ∨ b = it := by simpa using hb
    rcases e' with z | z
    · rw [z]; exact ⟨_, he, fun v q => nomatch q⟩
    · rw [z]; exact ⟨o, ho, fun v q => by rw [hd] at q; cases q⟩
  keep := fun i h h' st k => let ⟨⟨old, he⟩, ⟨o, ho, hi⟩, hne⟩ := st; ⟨⟨old, k e (by simp) _ he⟩, ⟨o, k it (by simp) o ho, hi⟩, hne⟩
  item := by
    intro X hP hw hK hc i pins s σ H E I hf st hg
    subst hP hw hK
    obtain ⟨⟨old, he⟩, hit, hne, ha1, ha2⟩ := st
    obtain ⟨xs, x, hq, hx⟩ := hg
    obtain ⟨its, rv, p, hz⟩ := I.tuple hq
    obtain ⟨u, hu, ru⟩ := rv.get hx
    have hel : e < s.heap.objs.size := Heap.lt_size he
    have hil : it < s.heap.objs.size := by obtain ⟨_, q, _⟩ := hit; exact Heap.lt_size q
    have hl := rv.length
    have hlt : i < its.toArray.size := by
      have := (List.getElem?_eq_some_iff.mp hu).1
      simpa using this
    refine wpAny_pyNext_enum_itemD (Draws.tuple (show X.A.in1.handled = none from I.ok.hd hc) it a ha1 its.toArray) he ⟨hit, p⟩ hlt hne (by simp [hne, Ne.symm ha2]) fun y h' tk hy ho hst hT hsz hk => ?_
    have hyu : y = u := by
      have : its[i]? = some y := by simpa using hy
      rw [hu] at this; cases this; rfl
    subst hyu
    obtain ⟨hit', _⟩ := hst
    refine ⟨_, rfl, wpAny_letOwnedTupleGo_enum (s := { s with heap := h', toks := tk + 1 }) ho fun h'' he' sb => ?_⟩
    have hT2 : h''.get? s.heap.objs.size = some { cls := .type "tuple", data := .seq #[.int i tk, y] } := (sb.2 _ (Nat.ne_of_gt hel)).trans hT
    have new : ObjOk X.prog X.w (upd H s.heap.objs.size (.tup [.int (i : Nat), x])) h'' s.heap.objs.size (.tup [.int (i : Nat), x]) :=
      ⟨by show 2 ≤ sizeLine; decide, [.int i tk, y], .cons ⟨_, rfl⟩ (.cons ru .nil), ⟨_, hT2, rfl, _, rfl⟩⟩
    have I1 : Inv X pins σ (upd H s.heap.objs.size (.tup [.int (i : Nat), x])) { s with heap := h'', toks := tk + 1 } :=
      I.turnedNew (ch := [e, it]) (fun b ob hb q => (sb.2 b (fun z => hb (by simp [z]))).trans (hk b ob (fun z => hb (by simp [z])) (fun z => hb (by simp [z])) q)) hf (Nat.le_refl _) new
    refine ⟨.ref s.heap.objs.size, _, I1, rfl, ⟨_, x, rfl, I.hok.fresh (Nat.le_refl _), rfl, fun ys hy => by rw [I.tuple_inj hy hq]; exact hx⟩, ⟨⟨y, ?_⟩, ?_, hne, ha1, ha2⟩, fun b hb => ?_⟩
    · have e1 : ((i + 1 : Nat) : Int) = (i : Int) + 1 := by omega
      rw [e1]; exact he'
    · obtain ⟨o, q1, q2⟩ := hit'
      exact ⟨o, (sb.2 it (Ne.symm hne)).trans q1, q2⟩
    · have hb' : b < s.heap.objs.size := by
        have e' : b = e ∨ b = it := by simpa using hb
        rcases e' with z | z
        · rw [z]; exact hel
        · rw [z]; exact hil
      rw [upd_ne (Nat.ne_of_lt hb')]
      exact (hf b hb).1
  done := by
    intro X hP hw hK hc i pins s σ H E I hf st hg
    subst hP hw hK
    obtain ⟨⟨old, he⟩, hit, hne, ha1, ha2⟩ := st
    obtain ⟨xs, hq, hx⟩ := hg
    obtain ⟨its, rv, p, hz⟩ := I.tuple hq
    obtain ⟨f0, f1, f2, f3, f4, f5⟩ := hf it (by simp)
    have hl := rv.length
    exact wpAny_pyNext_enumT_end (I.ok.hd hc) he hit p (by simp; omega) fun h' eb => ⟨rfl, I.turned (t' := s.toks) (fun b o hb q => eb b o hb q) f0 f1 f3 f4 f5⟩
  self := fun A i s Q E st h => let ⟨⟨_, he⟩, _⟩ := st; wpAny_pyIter_enum he h
def iEnumA (K : PySem.W.Frag) (ta : TA) : TI := fun σ H R => ta σ H fun vs H1 => ∃ a xs, vs = [.ref a] ∧ ((SqL K H1 a xs ∧ R (Ite K a) H1) ∨ (SqT K H1 a xs ∧ R (IteT K a) H1))
theorem pi_enumA {X : Cx} {e : Expr} {ta : TA} {p pos tpos : Pos} {elts : List Expr} {kk : Nat} (hg : Gl X "enumerate") (hm : X.mg "enumerate" = none) (ha : PA X [e] ta) (hs : starEach [e] X.env = [(false, eval e X.env)] := by rfl) :
    PI X (.Tuple elts kk tpos) (.Call (.Name "enumerate" p) [e] [] pos) (iEnumA X.K ta) := by
  refine ⟨fun pins s σ H R I h => ?_⟩
  refine Call_ (ld_blt I hg hm boot_enumerate (PyProof.Rows.callWith_type1 (thn (ha.run pos pins s σ H _ I h) fun us s1 ⟨vs, H1, I1, r1, q1⟩ => ?_) hs rfl))
  obtain ⟨a, xs, ex, q0⟩ := q1
  subst ex
  cases r1 with
  | cons r rr =>
    cases rr
    cases r
    have hfp : ∀ b, b ∈ [s1.heap.objs.size + 1, s1.heap.objs.size] → s1.heap.objs.size ≤ b := fun b hb => by
      have e' : b = s1.heap.objs.size + 1 ∨ b = s1.heap.objs.size := by simpa using hb
      rcases e' with z | z
      · rw [z]; exact Nat.le_add_right _ _
      · rw [z]; exact Nat.le_refl _
    rcases q0 with ⟨hq, q⟩ | ⟨hq, q⟩
    · obtain ⟨its, rv, p', hz⟩ := I1.list hq
      refine call_enumerate_list p'.isList fun h' he hit hsz hk => wpAny_pyIter_enum he ?_
      have I2 : Inv X pins σ H1 { s1 with heap := h' } := I1.kept (t' := s1.toks) hk
      exact ⟨s1.heap.objs.size + 1, [s1.heap.objs.size + 1, s1.heap.objs.size], _, _, H1, rfl, I2, turn_enum a (s1.heap.objs.size + 1) s1.heap.objs.size, ⟨⟨.none, he⟩, hit, Nat.succ_ne_self _⟩, fun b hb => I1.fpOk (hfp b hb) (I1.hok.fresh (hfp b hb)), q⟩
    · obtain ⟨its, rv, p', hz⟩ := I1.tuple hq
      have hal : a < s1.heap.objs.size := by obtain ⟨_, e, _⟩ := p'; exact Heap.lt_size e
      refine call_enumerate_any (begins_tuple a its.toArray) p' fun h' he hit hsz hk => wpAny_pyIter_enum he ?_
      have I2 : Inv X pins σ H1 { s1 with heap := h' } := I1.kept (t' := s1.toks) hk
      exact ⟨s1.heap.objs.size + 1, [s1.heap.objs.size + 1, s1.heap.objs.size], _, _, H1, rfl, I2, turn_enumT a (s1.heap.objs.size + 1) s1.heap.objs.size, ⟨⟨.none, he⟩, ⟨_, hit, rfl, rfl⟩, Nat.succ_ne_self _, Nat.ne_of_lt hal, Nat.ne_of_lt (Nat.lt_succ_of_lt hal)⟩, fun b hb => I1.fpOk (hfp b hb) (I1.hok.fresh (hfp b hb)), q⟩
theorem walkD_enumT {K : PySem.W.Frag} {G : Fz → Hp → Prop} {a : Addr} {xs : List D} (h : ∀ F H, Ok K F H → G F H → ∃ vs, SqT K H a vs ∧ Reps K F xs vs) : WalkD K G (IteT K a) (enumL 0 xs) := fun i F H k g => by
  obtain ⟨vs, h1, h2⟩ := h F H k g
  have hl := h2.length
  rw [enumL_len]
  refine ⟨fun hi => ⟨vs, vs[i]'(hl ▸ hi), h1, List.getElem?_eq_getElem (hl ▸ hi)⟩, fun hi => ⟨vs, h1, by omega⟩, fun hi x H' y => ?_⟩
  obtain ⟨T, x2, rfl, n, rfl, e⟩ := y
  obtain ⟨v, q1, q2⟩ := h2.get (List.getElem?_eq_getElem hi)
  rw [e vs h1] at q1
  cases q1
  obtain ⟨F4, h3, h4, h5⟩ := pair_step (d := .int (i : Nat)) k n repInt q2
  refine ⟨_, F4, ?_, h3, h4, h5⟩
  rw [enumL_get, List.getElem?_eq_getElem hi, Nat.zero_add]
  rfl
end EV

set_option Elab.async false
set_option linter.all false
set_option autoImplicit false
set_option maxRecDepth 100000
set_option maxHeartbeats 16000000
/-! EwB9: expressions are what the evaluator says. -/
namespace EV
open PySem PySem.Spec PyProof.Rows L2
section
variable {St : Stc} {Z : Z0} {G : Env} {sub : Sub} {k : Nat} {calm : Bool}
theorem getFld_ok {K : PySem.W.Frag} {W : WX} {r : R} {c j : Nat} {F : Fz} {H H0 : Hp} {σ : L2.St} {Q : VK} {v : V} (ok : Ok K F H) (rv : RepR K H0 F H r v) (p : PostE K Z W (getFld r.view c j) F H σ Q) :
    ∃ a C ns dx kvs, v = .ref a ∧ F.cl c = some (C, ns) ∧ H a = some (.ins C dx kvs) ∧ ∀ f, ns[j]? = some f → ∃ w, kvs.lookup f = some w ∧ Q w H := by
  rcases getFld_inv (d := r.view) (c := c) (k := j) (st := F.st) with e | ⟨n, fs, w, e1, e2, e3, e4⟩
  · unfold PostE PostM at p; rw [e] at p; exact p.elim
  · have hr : r = .val (.obj n) := by
      cases r with
      | val d => have e1' : d = .obj n := e1; rw [e1']
      | own xs => cases e1
      | bor xs => cases e1
    subst hr
    obtain ⟨a, C, ns, dx, kvs, rfl, ha, h3, h4, h5⟩ := ok.inst e2 rv
    refine ⟨a, C, ns, dx, kvs, rfl, h3, h4, fun f hf => ?_⟩
    obtain ⟨w', q1, q2⟩ := h5.at_ j f w hf e3
    refine ⟨w', q1, ?_⟩
    unfold PostE PostM at p; rw [e4] at p
    exact p F H rfl (Ext.refl ok) w' q2
theorem pe_bl0 {X : Cx} {W : WX} (g : Good X St Z W G sub k calm) (f : B) {x : Str} {p pos : Pos} {y : Expr} {xs : List Expr} {te : TA} (hc : (calm || !calmB f) = true) (hg : glob X.env.scope x = true) (hn : okName x = true) (hs : (y :: xs).all notStar = true) (hx : x = bname f) (hb : x ∈ St.blts) (A : PA X (y :: xs) te) :
    PE X (.Call (.Name x p) (y :: xs) [] pos) (tCB (rB X.K Z W f) te) := by
  have hm := g.blt x hb
  rw [List.all_cons, Bool.and_eq_true] at hs
  have hv : bootBuiltins x = some (bval f) := by rw [hx]; exact bboot f
  have C := call_D (X := X) (Z := Z) (W := W) f (fun z => (g.calm (by rw [z] at hc; simpa using hc)).1)
  have nm := okName_3 hn
  have dm := okName_1 hn
  have st := starEach_of (es := xs) (env := X.env) hs.1
  have sa := starEach_any (env := X.env) (pos := pos) hs.2
  cases f with
  | int => exact pe_callTy C (glob_of hg) hm hv A nm dm st sa
  | tuple => exact pe_callTy C (glob_of hg) hm hv A nm dm st sa
  | list => exact pe_callTy C (glob_of hg) hm hv A nm dm st sa
  | str => exact pe_callTy C (glob_of hg) hm hv A nm dm st sa
  | len => exact pe_callB C (glob_of hg) hm hv A nm dm st sa
  | abs => exact pe_callB C (glob_of hg) hm hv A nm dm st sa
  | max2 => exact pe_callB C (glob_of hg) hm hv A nm dm st sa
  | min2 => exact pe_callB C (glob_of hg) hm hv A nm dm st sa
  | sum => exact pe_callB C (glob_of hg) hm hv A nm dm st sa
  | all => exact pe_callB C (glob_of hg) hm hv A nm dm st sa
  | any => exact pe_callB C (glob_of hg) hm hv A nm dm st sa
  | srt => exact pe_callB C (glob_of hg) hm hv A nm dm st sa
  | minl => exact pe_callB C (glob_of hg) hm hv A nm dm st sa
  | maxl => exact pe_callB C (glob_of hg) hm hv A nm dm st sa
theorem lstr_inv {r : R} {st : Store} : r.lstr st = .bad ∨ ∃ xs gd, r.lstr st = .ok (xs, gd) st := by
  cases r with
  | own xs => exact .inr ⟨xs, [], rfl⟩
  | bor xs => exact .inr ⟨xs, [], rfl⟩
  | val d =>
    cases d with
    | lst xs => exact .inr ⟨xs, [], rfl⟩
    | obj n =>
      unfold R.lstr M.get
      dsimp only
      cases e : st[n]? with
      | none => exact .inl rfl
      | some o => cases o with
        | lst xs => exact .inr ⟨xs, _, rfl⟩
        | inst _ _ => exact .inl rfl
        | dic _ => exact .inl rfl
    | _ => exact .inl rfl
theorem lstr_ok {K : PySem.W.Frag} {W : WX} {α : Type} {r : R} {f : List D × Gd → M α} {F : Fz} {H : Hp} {σ : L2.St} {Q : α → Fz → Hp → Prop} (p : PostM K Z W (r.lstr.bind f) F H σ Q) : ∃ xs gd, r.lstr F.st = .ok (xs, gd) F.st ∧ PostM K Z W (f (xs, gd)) F H σ Q := by
  rcases lstr_inv (r := r) (st := F.st) with e | ⟨xs, gd, e⟩
  · exact (p.isBad e).elim
  · exact ⟨xs, gd, e, p.pure e⟩
/-- one list that is walked; it is held by many first -/
theorem hard1 {K : PySem.W.Frag} {W : WX} {m : List S → M R} {ss : List S} {h : R → List D × Gd → M Its} {F : Fz} {H : Hp} {σ : L2.St} {Q : Its → Fz → Hp → Prop} {Q' : VK} (p : PostM K Z W ((m ss).bind fun x => x.lstr.bind fun q => h x q) F H σ Q)
    (c : ∀ r F1 H1 v, Ext K F H F1 H1 → ∀ xs gd, r.lstr F1.st = .ok (xs, gd) F1.st → RepR K H F1 H1 r.hard v → PostM K Z W (h r (xs, gd)) F1 H1 σ Q → Q' v H1) : PostE K Z W (m ss) F H σ Q' := by
  have pb := PostM.bind p
  unfold PostM at pb
  unfold PostE PostM
  cases e : m ss F.st with
  | bad => rw [e] at pb; exact pb.elim
  | ex c st => rw [e] at pb; exact pb
  | ok r st =>
    rw [e] at pb
    intro F1 H1 hs x1 v rv
    obtain ⟨F2, s2, x2, r2, l2⟩ := RepR.harden x1 rv
    have p2 := pb F2 H1 (s2.trans hs) x2
    obtain ⟨xs, gd, e3, p3⟩ := lstr_ok p2
    exact c r F2 H1 v x2 xs gd e3 r2 p3
theorem hard2 {K : PySem.W.Frag} {W : WX} {a b : E} {ss : List S} {h : R → R → M Its} {F : Fz} {H : Hp} {σ : L2.St} {Q : Its → Fz → Hp → Prop} {Q' : List V → Hp → Prop} (rel : Rel K Z F ss σ H) (p : PostM K Z W ((evE G sub a ss).bind fun x => (evE G sub b ss).bind fun y => h x y) F H σ Q)
    (c : ∀ r F2 H2 v r' v', Ext K F H F2 H2 → RepR K H F2 H2 r.hard v → RepR K H F2 H2 r'.hard v' → PostM K Z W (h r r') F2 H2 σ Q → Q' [v, v'] H2) :
    PostE K Z W (evE G sub a ss) F H σ fun v H1 => tCons (tE K Z W (evE G sub b)) tNil σ H1 fun xs H2 => Q' (v :: xs) H2 := by
  have pb := PostM.bind p
  unfold PostM at pb
  unfold PostE PostM
  cases e : evE G sub a ss F.st with
  | bad => rw [e] at pb; exact pb.elim
  | ex c st => rw [e] at pb; exact pb
  | ok r st =>
    rw [e] at pb
    intro F1 H1 hs x1 v rv
    obtain ⟨F2, s2, x2, r2, l2⟩ := RepR.harden x1 rv
    have p2 := pb F2 H1 (s2.trans hs) x2
    refine ⟨F2, ss, rel.grow x2, ?_⟩
    have pc := PostM.bind p2
    unfold PostM at pc
    unfold PostE PostM
    cases e' : evE G sub b ss F2.st with
    | bad => rw [e'] at pc; exact pc.elim
    | ex c st => rw [e'] at pc; exact pc
    | ok r' st' =>
      rw [e'] at pc
      intro F3 H3 hs3 x3 v' rv'
      obtain ⟨F4, s4, x4, r4, l4⟩ := RepR.harden x3 rv'
      exact c r F4 H3 v r' v' (x2.trans x4) (RepR.ext x4 r2) (RepR.back (fun _ => x2.free) r4) (pc F4 H3 (s4.trans hs3) x4)
theorem and_bool (a b : E) (ss : List S) : (evE G sub (.and a b) ss).bind asBool = ((evE G sub a ss).bind asBool).bind fun t => if t then (evE G sub b ss).bind asBool else M.ok false := by
  have e : evE G sub (.and a b) ss = (evE G sub a ss).bind fun x => (asBool x).bind fun t => if t then evE G sub b ss else .ok (.val (.bl false)) := by rw [evE]
  rw [e, bind_assoc, bind_assoc]
  refine congrArg _ (funext fun r => ?_)
  rw [bind_assoc]
  refine congrArg _ (funext fun t => ?_)
  cases t <;> rfl
theorem or_bool (a b : E) (ss : List S) : (evE G sub (.or a b) ss).bind asBool = ((evE G sub a ss).bind asBool).bind fun t => if t then M.ok true else (evE G sub b ss).bind asBool := by
  have e : evE G sub (.or a b) ss = (evE G sub a ss).bind fun x => (asBool x).bind fun t => if t then .ok (.val (.bl true)) else evE G sub b ss := by rw [evE]
  rw [e, bind_assoc, bind_assoc]
  refine congrArg _ (funext fun r => ?_)
  rw [bind_assoc]
  refine congrArg _ (funext fun t => ?_)
  cases t <;> rfl
theorem not_bool (a : E) (ss : List S) : (evE G sub (.not a) ss).bind asBool = ((evE G sub a ss).bind asBool).bind fun t => M.ok (!t) := by
  have e : evE G sub (.not a) ss = (evE G sub a ss).bind fun x => (asBool x).bind fun b => .ok (.val (.bl (!b))) := by rw [evE]
  rw [e, bind_assoc, bind_assoc]
  refine congrArg _ (funext fun r => ?_)
  rw [bind_assoc]
  rfl
mutual
theorem sndE : ∀ (a : E) {X : Cx} {W : WX} {e : Expr}, Good X St Z W G sub k calm → chkE St calm X.env.scope a e = true → PE X e (tE X.K Z W (evE G sub a))
  | .var i, X, W, e, g, h => by
    unfold chkE at h
    split at h
    · rename_i x pos
      simp only [Bool.and_eq_true, decide_eq_true_eq] at h
      refine PE.imp (pe_var (i := i) (by rw [g.N]; exact h.1.1) (vis_of h.1.2) (okName_1 h.2) (okName_2 h.2)) fun σ H Q q => ?_
      obtain ⟨F, ss, rel, p⟩ := q
      unfold evE at p
      cases hd : ss[i]? with
      | none => rw [hd] at p; exact (show False from p).elim
      | some s =>
        rw [hd] at p
        cases s with
        | val d =>
          obtain ⟨v, h1, h2⟩ := rel.val i d hd
          exact ⟨v, h1, PostE.val p rel.ok h2⟩
        | own xs =>
          obtain ⟨b, vs, h1, h2, h3, h4, h5⟩ := rel.own i xs hd
          exact ⟨.ref b, h1, p F H rfl (Ext.refl rel.ok) (.ref b) ⟨b, vs, rfl, h2, h3, h5⟩⟩
        | emp => exact (show False from p).elim
        | exc c => exact (show False from p).elim
    · cases h
  | .k d, X, W, e, g, h => by
    unfold chkE at h
    split at h
    · rename_i i j _ _
      have e1 := of_decide_eq_true h
      subst e1
      exact PE.imp pe_int fun σ H Q ⟨F, ss, rel, p⟩ => by unfold evE at p; exact PostE.val p rel.ok repInt
    · have e1 := of_decide_eq_true h
      subst e1
      exact PE.imp pe_str fun σ H Q ⟨F, ss, rel, p⟩ => by unfold evE at p; exact PostE.val p rel.ok repStr
    · have e1 := of_decide_eq_true h
      subst e1
      exact PE.imp pe_bl fun σ H Q ⟨F, ss, rel, p⟩ => by unfold evE at p; exact PostE.val p rel.ok repBl
    · exact PE.imp pe_non fun σ H Q ⟨F, ss, rel, p⟩ => by unfold evE at p; exact PostE.val p rel.ok repNon
    · cases h
  | .gl x d, X, W, e, g, h => by
    unfold chkE at h
    split at h
    · simp only [Bool.and_eq_true] at h
      obtain ⟨pr, hm, hp⟩ := List.any_eq_true.mp h.2
      simp only [Bool.and_eq_true, decide_eq_true_eq] at hp
      obtain ⟨u, v, h1, h2, h3⟩ := g.gl pr hm
      rw [hp.1] at h1
      rw [D.same_eq _ _ hp.2] at h3
      exact PE.imp (pe_glob (glob_of h.1.1) h1 h2 (okName_1 h.1.2)) fun σ H Q ⟨F, ss, rel, p⟩ => by unfold evE at p; exact PostE.val p rel.ok (h3 F)
    · cases h
  | .tup es, X, W, e, g, h => by
    unfold chkE at h
    split at h
    · refine PE.imp (pe_tup (sndA es g h)) fun σ H Q ⟨F, ss, rel, p⟩ => ⟨F, ss, rel, ?_⟩
      unfold evE at p
      refine (PostE.bind p).mono fun ds F1 H1 e1 x1 p1 vs rs => ?_
      obtain ⟨c, p2⟩ := guardM_ok (P := fun m => PostE X.K Z W m F1 H1 σ Q) p1 (fun z => z)
      exact ⟨by rw [← rs.length, ← line_eq]; exact of_decide_eq_true c, fun q nq => PostE.tup p2 x1.ok rs q nq⟩
    · cases h
  | .lst es, X, W, e, g, h => by
    unfold chkE at h
    split at h
    · refine PE.imp (pe_lst (sndA es g h)) fun σ H Q ⟨F, ss, rel, p⟩ => ⟨F, ss, rel, ?_⟩
      unfold evE at p
      refine (PostE.bind p).mono fun ds F1 H1 e1 x1 p1 vs rs => ?_
      obtain ⟨c, p2⟩ := guardM_ok (P := fun m => PostE X.K Z W m F1 H1 σ Q) p1 (fun z => z)
      exact ⟨by rw [← rs.length, ← line_eq]; exact of_decide_eq_true c, fun q nq => PostE.own p2 x1.ok rs q nq⟩
    · cases h
  | .op o a b, X, W, e, g, h => by
    unfold chkE at h
    split at h
    · simp only [Bool.and_eq_true, decide_eq_true_eq] at h
      obtain ⟨⟨rfl, h1⟩, h2⟩ := h
      exact PE.imp (pe_op (op_opD (Z := Z) (W := W) _) (sndE a g h1) (sndE b g h2)) fun σ H Q q => tE_two (by simpa only [evE] using q)
    · cases h
  | .neg a, X, W, e, g, h => by
    unfold chkE at h
    split at h
    · refine PE.imp (pe_un un_neg (sndE a g h)) fun σ H Q ⟨F, ss, rel, p⟩ => ⟨F, ss, rel, ?_⟩
      unfold evE at p
      refine (PostE.bind p).toE fun r F1 H1 v e1 x1 p1 q => ?_
      obtain ⟨i, rfl, pn⟩ := asInt_ok (P := fun m => PostE X.K Z W m F1 H1 σ Q) p1 (fun z => z)
      have q' : Rep X.K F1 (.int i) v := q
      unfold Rep at q'
      exact ⟨i, q', PostE.val pn x1.ok repInt⟩
    · cases h
  | .not a, X, W, e, g, h => by
    unfold chkE at h
    split at h
    · refine PE.imp (pe_not (sndE a g h)) fun σ H Q ⟨F, ss, rel, p⟩ => ⟨F, ss, rel, ?_⟩
      unfold evE at p
      refine (PostE.bind p).toE fun r F1 H1 v e1 x1 p1 q => ?_
      obtain ⟨i, rfl, pn⟩ := asBool_ok (P := fun m => PostE X.K Z W m F1 H1 σ Q) p1 (fun z => z)
      have q' : Rep X.K F1 (.bl i) v := q
      unfold Rep at q'
      exact ⟨i, q', PostE.val pn x1.ok repBl⟩
    · cases h
  | .cmp o a b, X, W, e, g, h => by
    unfold chkE at h
    split at h
    · simp only [Bool.and_eq_true, decide_eq_true_eq, Bool.not_eq_true'] at h
      obtain ⟨⟨⟨rfl, hm⟩, h1⟩, h2⟩ := h
      exact PE.imp (pe_cmpR (op_cmpD (Z := Z) (W := W) g.un _) (sndE a g h1) (sndE b g h2) hm) fun σ H Q q => tE_two (by simpa only [evE] using q)
    · cases h
  | .chain o p a b c, X, W, e, g, h => by
    unfold chkE at h
    split at h
    · simp only [Bool.and_eq_true, decide_eq_true_eq, Bool.not_eq_true'] at h
      obtain ⟨⟨⟨⟨⟨rfl, rfl⟩, hm⟩, h1⟩, h2⟩, h3⟩ := h
      exact PE.imp (pe_chain (op_cmpD (Z := Z) (W := W) g.un _) (op_cmpD (Z := Z) (W := W) g.un _) (sndE a g h1) (sndE b g h2) (sndE c g h3) hm) fun σ H Q q => chain_two (by simpa only [evE] using q)
    · cases h
  | .and a b, X, W, e, g, h => by
    unfold chkE at h
    split at h
    · simp only [Bool.and_eq_true] at h
      refine PE.imp (pe_and (sndE a g h.1) (sndE b g h.2)) fun σ H Q ⟨F, ss, rel, p⟩ => ⟨F, ss, rel, ?_⟩
      unfold evE at p
      refine (PostE.bind p).toE fun r F1 H1 v e1 x1 p1 q => ?_
      obtain ⟨i, rfl, pn⟩ := asBool_ok (P := fun m => PostE X.K Z W m F1 H1 σ Q) p1 (fun z => z)
      have q' : Rep X.K F1 (.bl i) v := q
      unfold Rep at q'
      refine ⟨i, q', ?_⟩
      cases i with
      | true => rw [if_pos rfl]; rw [if_pos rfl] at pn; exact ⟨F1, ss, rel.grow x1, pn⟩
      | false => rw [if_neg Bool.false_ne_true]; rw [if_neg Bool.false_ne_true] at pn; exact PostE.val pn x1.ok repBl
    · cases h
  | .or a b, X, W, e, g, h => by
    unfold chkE at h
    split at h
    · simp only [Bool.and_eq_true] at h
      refine PE.imp (pe_or (sndE a g h.1) (sndE b g h.2)) fun σ H Q ⟨F, ss, rel, p⟩ => ⟨F, ss, rel, ?_⟩
      unfold evE at p
      refine (PostE.bind p).toE fun r F1 H1 v e1 x1 p1 q => ?_
      obtain ⟨i, rfl, pn⟩ := asBool_ok (P := fun m => PostE X.K Z W m F1 H1 σ Q) p1 (fun z => z)
      have q' : Rep X.K F1 (.bl i) v := q
      unfold Rep at q'
      refine ⟨i, q', ?_⟩
      cases i with
      | true => rw [if_pos rfl]; rw [if_pos rfl] at pn; exact PostE.val pn x1.ok repBl
      | false => rw [if_neg Bool.false_ne_true]; rw [if_neg Bool.false_ne_true] at pn; exact ⟨F1, ss, rel.grow x1, pn⟩
    · cases h
  | .one a, X, W, e, g, h => by
    unfold chkE at h
    split at h
    · exact PE.imp (pe_one (sndE a g h)) fun σ H Q ⟨F, ss, rel, p⟩ => ⟨F, ss, rel, by unfold evE at p; exact p⟩
    · cases h
  | .ite c a b, X, W, e, g, h => by
    unfold chkE at h
    split at h
    · simp only [Bool.and_eq_true] at h
      obtain ⟨⟨⟨h0, h1⟩, h2⟩, h3⟩ := h
      refine PE.imp (pe_ifExp (sndT c h0 g h1) (sndE a g h2) (sndE b g h3)) fun σ H Q ⟨F, ss, rel, p⟩ => ⟨F, ss, rel, ?_⟩
      unfold evE at p
      have pa : PostE X.K Z W (((evE G sub c ss).bind asBool).bind fun t => if t then evE G sub a ss else evE G sub b ss) F H σ Q := by
        rw [bind_assoc]; exact p
      refine (PostE.bind pa).mono fun i F1 H1 e1 x1 p1 => ?_
      cases i with
      | true => rw [if_pos rfl]; rw [if_pos rfl] at p1; exact ⟨F1, ss, rel.grow x1, p1⟩
      | false => rw [if_neg Bool.false_ne_true]; rw [if_neg Bool.false_ne_true] at p1; exact ⟨F1, ss, rel.grow x1, p1⟩
    · cases h
  | .call f es, X, W, e, g, h => by
    unfold chkE at h
    split at h
    · rename_i x p xs pos
      simp only [Bool.and_eq_true] at h
      obtain ⟨⟨⟨⟨⟨hc, hg⟩, hn⟩, hs⟩, hf⟩, he⟩ := h
      have A := sndA es g he
      cases xs with
      | nil =>
        cases es with
        | nil => exact PE.imp (pe_fn0 g hc hg hn hf) fun σ H Q q => by simpa only [evE, evF] using q
        | cons _ _ => simp [chkEs] at he
      | cons y ys => exact PE.imp (pe_fn g hc hg hn hs hf A) fun σ H Q q => by simpa only [evE] using q
    · cases h
  | .blt f es, X, W, e, g, h => by
    unfold chkE at h
    split at h
    · rename_i x p y xs pos
      simp only [Bool.and_eq_true, decide_eq_true_eq] at h
      obtain ⟨⟨⟨⟨⟨⟨hc, hg⟩, hn⟩, hs⟩, hx⟩, hb⟩, he⟩ := h
      have A := sndR es g he
      refine PE.imp (pe_bl0 g f hc hg hn hs hx hb A) fun σ H Q ⟨F, ss, rel, p⟩ => ⟨F, ss, rel, ?_⟩
      unfold evE at p
      exact (PostE.bind p).mono fun rs F1 H1 e1 x1 p1 vs q => ⟨F1, σ, _, x1.ok, reps_of x1.ok q, p1⟩
    · cases h
  | .ix a i, X, W, e, g, h => by
    unfold chkE at h
    split at h
    · simp only [Bool.and_eq_true] at h
      exact PE.imp (pe_ix (ix_D (Z := Z) (W := W)) (sndE a g h.1.2) (sndE i g h.2) (plainIx_of h.1.1)) fun σ H Q q => tE_two (by simpa only [evE] using q)
    · cases h
  | .sl a lo hi, X, W, e, g, h => by
    unfold chkE at h
    split at h
    · simp only [Bool.and_eq_true] at h
      refine PE.imp (pe_slice (sl_D (Z := Z) (W := W)) (sndE a g h.1.1) (sndO lo g h.1.2) (sndO hi g h.2)) fun σ H Q ⟨F, ss, rel, p⟩ => ⟨F, ss, rel, ?_⟩
      unfold evE at p
      refine (PostE.bind p).toE fun r F1 H1 v e1 x1 p1 q => ⟨F1, ss, rel.grow x1, ?_⟩
      refine (PostE.bind p1).mono fun l F2 H2 e2 x2 p2 => ⟨F2, ss, (rel.grow x1).grow x2, ?_⟩
      refine (PostE.bind p2).mono fun u F3 H3 e3 x3 p3 => ?_
      exact ⟨F3, σ, r.view, x3.ok, RepR.view x3.ok (RepR.ext (x2.trans x3) q), p3⟩
    · cases h
  | .isi a t, X, W, e, g, h => by
    unfold chkE at h
    split at h
    · rename_i f pf x y py pos
      simp only [Bool.and_eq_true, decide_eq_true_eq] at h
      obtain ⟨⟨⟨⟨⟨⟨⟨⟨hf, hg⟩, hfb⟩, hgy⟩, hny⟩, hy⟩, hyb⟩, hs⟩, hx⟩ := h
      subst hf
      have hv : bootBuiltins y = some (.type (tyName t)) := by rw [hy]; exact tyboot t
      have A := pa_cons (sndE a g hx) (pa_cons (pe_bltn (v := .ty (tyName t)) (pos := py) (glob_of hgy) (g.blt y hyb) hv rfl (okName_3 hny) (okName_1 hny)) pa_nil) (starEach_of hs)
      refine PE.imp (pe_callB call_isi (glob_of hg) (g.blt _ hfb) (by decide +kernel) A (by decide) (by decide) (starEach_of hs) (starEach_any rfl)) fun σ H Q ⟨F, ss, rel, p⟩ => ⟨F, ss, rel, ?_⟩
      unfold evE at p
      refine (PostE.bind p).toE fun r F1 H1 v e1 x1 p1 q => ?_
      have vw := RepR.view x1.ok q
      by_cases ho : ∃ n, r = .val (.obj n)
      · obtain ⟨n, rfl⟩ := ho
        exact (show False from p1).elim
      · have nv : ∀ n, r.view ≠ .obj n := fun n z => by
          cases r with
          | val d => have z' : d = .obj n := z; exact ho ⟨n, by rw [z']⟩
          | own xs => cases z
          | bor xs => cases z
        have p2 : PostE X.K Z W (.ok (.val (.bl (isTy t r.view)))) F1 H1 σ Q := by
          cases r with
          | val d => cases d <;> first | exact p1 | exact absurd ⟨_, rfl⟩ ho
          | own xs => exact p1
          | bor xs => exact p1
        exact ⟨v, .ty (tyName t), _, _, _, rfl, .ty _, View.tyX x1.ok nv vw, kit_ty (kit_D t r.view nv), PostE.val p2 x1.ok repBl⟩
    · cases h
  | .isx i cs, X, W, e, g, h => by
    unfold chkE at h
    split at h
    · rename_i f pf x px y pos
      simp only [Bool.and_eq_true, decide_eq_true_eq] at h
      obtain ⟨⟨⟨⟨⟨⟨hf, hg⟩, hfb⟩, hN⟩, hv⟩, hok⟩, hy⟩ := h
      subst hf
      refine ⟨fun pins s σ H Q I q => ?_⟩
      obtain ⟨F, ss, rel, p⟩ := q
      unfold evE at p
      cases hc : ss[i]? with
      | none => rw [hc] at p; exact (show False from p).elim
      | some sl =>
      rw [hc] at p
      cases sl with
      | exc c =>
        dsimp only at p
        cases hb : anyO sub c cs with
        | none => rw [hb] at p; exact (show False from p).elim
        | some b =>
          rw [hb] at p
          obtain ⟨a, hz, hσ⟩ := rel.exc i c hc
          have C := g.isx a c i hz
          have P := pe_var (pos := px) (i := i) (X := X) (by rw [g.N]; exact hN) (vis_of hv) (okName_1 hok) (okName_2 hok)
          split at hy
          · rename_i cn pc k
            simp only [Bool.and_eq_true, Bool.or_eq_true, decide_eq_true_eq] at hy
            have e1 : sub c k = some b := by
              unfold anyO at hb
              cases e : sub c k with
              | none => rw [e] at hb; cases hb
              | some t =>
                rw [e] at hb
                cases t with
                | true => exact hb
                | false => unfold anyO at hb; exact hb
            rcases hy.2 with hy2 | ⟨⟨hk, hcn⟩, hcb⟩
            · obtain ⟨D, hD, hcl⟩ := g.exn _ hy2
              have A := pa_cons P (pa_cons (pe_glob (pos := pc) (glob_of hy.1.1) hD (show L2.RelV (.ref D) (.ref D) from rfl) (okName_1 hy.1.2)) pa_nil)
              exact (pe_callB C (glob_of hg) (g.blt _ hfb) (by decide +kernel) A (by decide) (by decide) rfl (starEach_any rfl)).run pins s σ H Q I ⟨_, hσ, .inl ⟨k, D, b, rfl, hcl, e1, PostE.val p rel.ok repBl⟩⟩
            · subst hk
              have hv : bootBuiltins cn = some (.type "ValueError") := by rw [hcn]; rfl
              have A := pa_cons P (pa_cons (pe_bltn (v := .ty "ValueError") (pos := pc) (glob_of hy.1.1) (g.blt cn hcb) hv rfl (okName_3 hy.1.2) (okName_1 hy.1.2)) pa_nil)
              exact (pe_callB C (glob_of hg) (g.blt _ hfb) (by decide +kernel) A (by decide) (by decide) rfl (starEach_any rfl)).run pins s σ H Q I ⟨_, hσ, .inr (.inl ⟨b, rfl, (g.subx c 99 b e1).2.2 rfl, e1, PostE.val p rel.ok repBl⟩)⟩
          · rename_i ys kk pt
            simp only [Bool.and_eq_true, decide_eq_true_eq] at hy
            obtain ⟨Cs, h1, h2⟩ := sndX g cs hy.2
            have A := pa_cons P (pa_cons (pe_tup (pos := pt) (x1 := kk) h2) pa_nil)
            refine (pe_callB C (glob_of hg) (g.blt _ hfb) (by decide +kernel) A (by decide) (by decide) rfl (starEach_any rfl)).run pins s σ H Q I ⟨_, hσ, ?_, fun tp ntp => .inr (.inr ⟨tp, cs, Cs, b, rfl, upd_same, h1, hb, ?_⟩)⟩
            · rw [List.length_map, ← List.length_map (f := Value.ref), ← h1, List.length_map]
              exact Nat.le_trans hy.1 (by rw [sizeLine_eq]; omega)
            · exact p F _ rfl (Ext.new1 rel.ok ntp _) (.bl b) (show Rep X.K F (.bl b) (.bl b) from repBl)
          · cases hy
      | val _ => exact (show False from p).elim
      | own _ => exact (show False from p).elim
      | emp => exact (show False from p).elim
    · cases h
  | .lc vs tg it c x, X, W, e, g, h => by
    unfold chkE at h
    split at h
    · rename_i elt t iter ifs as scope pos
      simp only [Bool.and_eq_true, decide_eq_true_eq] at h
      obtain ⟨⟨⟨⟨⟨⟨⟨⟨hc, ha⟩, hb⟩, hi⟩, hns⟩, ht⟩, hix⟩, hcd⟩, hx⟩ := h
      subst ha
      have hcalm := (g.calm hc).1
      have bo := blkOk_by (sc := X.env.scope) (own := ownOf St.N vs) (by rw [← g.N] at hb; rw [← g.N]; exact hb)
      have key := pe_lc (ifs := ifs) (own := ownOf St.N vs) (g := gT X.K Z tg) (tt := tB X.K Z W0 (evC G sub c)) (te := tE X.K Z W0 (evE G sub x)) (pos := pos) hcalm g.nd (sndI it (tg := t) g hi) bo
        (fun s H C cl fp => sndTg (St := St) tg (X := X.blk s H scope (compEnvC scope cl C X.env) fp) hcalm g.N g.nd g.clsOk (fun y hy => loc_relS (sc := X.env.scope) hy) ht)
        (fun s H C cl fp => sndC c (g.blk (g.calm hc).2.2 s H scope (compEnvC scope cl C X.env) fp) hcd)
        (fun s H C cl fp => sndE x (g.blk (g.calm hc).2.2 s H scope (compEnvC scope cl C X.env) fp) hx)
        (notSet_of hns)
      rw [ownOf_snd] at key
      exact PE.imp key fun σ H Q q => lc_snd hix (by simpa only [evE] using q)
    · cases h
  | .box a, X, W, e, g, h => by
    unfold chkE at h
    refine PE.imp (sndE a g h) fun σ H Q ⟨F, ss, rel, p⟩ => ⟨F, ss, rel, ?_⟩
    unfold evE at p
    unfold PostE PostM at p ⊢
    unfold M.bind at p
    cases e1 : evE G sub a ss F.st with
    | bad => rw [e1] at p; exact p.elim
    | ex c st => rw [e1] at p; exact p
    | ok r st =>
      rw [e1] at p
      intro F1 H1 hs x1 v q
      subst hs
      cases r with
      | val d => exact (show False from p).elim
      | bor xs => exact (show False from p).elim
      | own xs =>
        obtain ⟨b, vs, rfl, h1, h2, h3, h4⟩ := q
        have x2 : Ext X.K F H (F1.push b (.lst xs)) H1 := x1.push h2 h3 ⟨vs, h1, Reps.mono Le.push _ _ h4⟩
        refine p _ _ rfl x2 (.ref b) ?_
        show Rep X.K _ _ _
        unfold Rep
        exact ⟨b, rfl, by rw [← x1.ok.len]; show (F1.al ++ [b])[F1.al.length]? = some b; simp⟩
  | .fld c j a, X, W, e, g, h => by
    unfold chkE at h
    split at h
    · rename_i x f pos
      simp only [Bool.and_eq_true] at h
      obtain ⟨⟨h1, h2⟩, h3⟩ := h
      refine PE.imp (pe_fld (sndE a g h3) (notSup_of h1)) fun σ H Q ⟨F, ss, rel, p⟩ => ⟨F, ss, rel, ?_⟩
      unfold evE at p
      refine (PostE.bind p).toE fun r F1 H1 v e1 x1 p1 q => ?_
      obtain ⟨b, C, ns, dx, kvs, rfl, q1, q2, q3⟩ := getFld_ok x1.ok q p1
      rw [x1.le.cl, rel.cl] at q1
      obtain ⟨y1, y2, y3⟩ := isFld_ok g.clsOk h2 q1
      obtain ⟨w, z1, z2⟩ := q3 f y1
      exact ⟨b, C, dx, kvs, w, rfl, q2, y2, y3, z1, z2⟩
    · cases h
  | .new c f n es, X, W, e, g, h => by
    unfold chkE at h
    split at h
    · rename_i x p xs pos
      simp only [Bool.and_eq_true, decide_eq_true_eq] at h
      obtain ⟨⟨⟨⟨⟨⟨⟨hc, hg⟩, hok⟩, hs⟩, hn⟩, hcs⟩, hf⟩, he⟩ := h
      refine PE.imp (pe_nw g hc hg hok hs hn (by simpa using hcs) (by simpa using hf) (sndA es g he) (te := evF G sub es) ?_) fun σ H Q q => by simpa only [evE] using q
      intro hx ss
      subst hx
      cases es with
      | nil => unfold evF; rfl
      | cons _ _ => simp [chkEs] at he
    · cases h
  | .mth c f a es, X, W, e, g, h => by
    unfold chkE at h
    split at h
    · rename_i o m apos xs pos
      simp only [Bool.and_eq_true] at h
      obtain ⟨⟨⟨⟨⟨⟨⟨⟨hc, hb⟩, hl⟩, hn⟩, hs⟩, hf⟩, hcs⟩, ho⟩, he⟩ := h
      refine PE.imp (pe_mt g hc hb hl (of_decide_eq_true hn) hs hf hcs (sndE a g ho) (sndA es g he) (te := evF G sub es) ?_) fun σ H Q q => by simpa only [evE] using q
      intro hx ss
      subst hx
      cases es with
      | nil => unfold evF; rfl
      | cons _ _ => simp [chkEs] at he
    · cases h
  | .ixr a i, X, W, e, g, h => by
    unfold chkE at h
    split at h
    · simp only [Bool.and_eq_true] at h
      exact PE.imp (pe_ix (ix_D (Z := Z) (W := W)) (sndE a g h.1.2) (sndE i g h.2) (plainIx_of h.1.1)) fun σ H Q q => tE_twoR (by simpa only [evE] using q)
    · cases h
  | .slr a lo hi, X, W, e, g, h => by
    unfold chkE at h
    split at h
    · simp only [Bool.and_eq_true] at h
      refine PE.imp (pe_slice (sl_D (Z := Z) (W := W)) (sndE a g h.1.1) (sndO lo g h.1.2) (sndO hi g h.2)) fun σ H Q ⟨F, ss, rel, p⟩ => ⟨F, ss, rel, ?_⟩
      unfold evE at p
      refine (PostE.bind p).toE fun r F1 H1 v e1 x1 p1 q => ⟨F1, ss, rel.grow x1, ?_⟩
      refine (PostE.bind p1).mono fun l F2 H2 e2 x2 p2 => ⟨F2, ss, (rel.grow x1).grow x2, ?_⟩
      refine (PostE.bind p2).mono fun u F3 H3 e3 x3 p3 => ?_
      obtain ⟨d, hd, pd⟩ := der_ok x3.ok (RepR.ext (x2.trans x3) q) p3
      exact ⟨F3, σ, d, x3.ok, hd, pd⟩
    · cases h
  | .cmpr o a b, X, W, e, g, h => by
    unfold chkE at h
    split at h
    · simp only [Bool.and_eq_true, decide_eq_true_eq, Bool.not_eq_true'] at h
      obtain ⟨⟨⟨rfl, hm⟩, h1⟩, h2⟩ := h
      exact PE.imp (pe_cmpR (op_cmpD (Z := Z) (W := W) g.un _) (sndE a g h1) (sndE b g h2) hm) fun σ H Q q => tE_twoRR (by simpa only [evE] using q)
    · cases h
  | .bltr f es, X, W, e, g, h => by
    unfold chkE at h
    split at h
    · rename_i x p y xs pos
      simp only [Bool.and_eq_true, decide_eq_true_eq] at h
      obtain ⟨⟨⟨⟨⟨⟨hc, hg⟩, hn⟩, hs⟩, hx⟩, hb⟩, he⟩ := h
      have A := sndR es g he
      refine PE.imp (pe_bl0 g f (by rw [hc]; rfl) hg hn hs hx hb A) fun σ H Q ⟨F, ss, rel, p⟩ => ⟨F, ss, rel, ?_⟩
      unfold evE at p
      refine (PostE.bind p).mono fun rs F1 H1 e1 x1 p1 vs q => ?_
      match rs, q, p1 with
      | [], _, p1 => exact (show False from p1).elim
      | [r], .cons (b := v) q1 .nil, p1 =>
        obtain ⟨d, hd, pd⟩ := der_ok x1.ok q1 p1
        exact ⟨F1, σ, [d], x1.ok, .cons hd .nil, pd⟩
      | _ :: _ :: _, _, p1 => exact (show False from p1).elim
    · cases h
  | .chn a os es, X, W, e, g, h => by
    unfold chkE at h
    split at h
    · simp only [Bool.and_eq_true, decide_eq_true_eq, Bool.not_eq_true'] at h
      obtain ⟨⟨⟨⟨ho, hl⟩, hm⟩, h1⟩, h2⟩ := h
      exact chn_ok g.un (sndE a g h1) (sndL es g h2) ho hl hm
    · cases h
  | .orV a b, X, W, e, g, h => by
    unfold chkE at h
    split at h
    · simp only [Bool.and_eq_true] at h
      exact orV_ok (sndE a g h.1) (sndE b g h.2)
    · cases h
  | .sm m a es, X, W, e, g, h => by
    unfold chkE at h
    split at h
    · simp only [Bool.and_eq_true, decide_eq_true_eq] at h
      obtain ⟨⟨⟨⟨⟨⟨hm, hb⟩, hl⟩, hn⟩, hs⟩, h1⟩, h2⟩ := h
      subst hm
      exact sm_ok (sndE a g h1) (sndL es g h2) hb hl hn hs
    · cases h
  | .fs es, X, W, e, g, h => by
    unfold chkE at h
    split at h
    · exact fs_ok (sndJ es g h)
    · cases h
  | .lrng none hi, X, W, e, g, h => by
    unfold chkE at h
    split at h
    · simp only [Bool.and_eq_true, decide_eq_true_eq] at h
      obtain ⟨⟨⟨⟨⟨⟨⟨hc, e1⟩, hg⟩, hb⟩, e2⟩, hg2⟩, hb2⟩, h1⟩ := h
      subst e1 e2
      split at h1
      · simp only [Bool.and_eq_true] at h1
        exact lrng1_ok (g.calm hc).1 (glob_of hg) (g.blt _ hb) (glob_of hg2) (g.blt _ hb2) h1.1 (sndE hi g h1.2)
      · contradiction
      · cases h1
    · cases h
  | .lrng (some a) hi, X, W, e, g, h => by
    unfold chkE at h
    split at h
    · simp only [Bool.and_eq_true, decide_eq_true_eq] at h
      obtain ⟨⟨⟨⟨⟨⟨⟨hc, e1⟩, hg⟩, hb⟩, e2⟩, hg2⟩, hb2⟩, h1⟩ := h
      subst e1 e2
      split at h1
      · contradiction
      · rename_i z
        cases z
        simp only [Bool.and_eq_true] at h1
        exact lrng2_ok (g.calm hc).1 (glob_of hg) (g.blt _ hb) (glob_of hg2) (g.blt _ hb2) h1.1.1.1 h1.1.1.2 (sndE a g h1.1.2) (sndE hi g h1.2)
      · cases h1
    · cases h
  | .lset a, X, W, e, g, h => by
    unfold chkE at h
    split at h
    · simp only [Bool.and_eq_true, decide_eq_true_eq] at h
      obtain ⟨⟨⟨⟨⟨⟨⟨⟨hc, e1⟩, hg⟩, hb⟩, e2⟩, hg2⟩, hb2⟩, hs⟩, h1⟩ := h
      subst e1 e2
      exact lset_ok (g.calm hc).1 (glob_of hg) (g.blt _ hb) (glob_of hg2) (g.blt _ hb2) hs (sndE a g h1)
    · cases h
  | .popr a none, X, W, e, g, h => by
    unfold chkE at h
    split at h
    · simp only [Bool.and_eq_true, decide_eq_true_eq] at h
      obtain ⟨⟨⟨⟨e1, hb⟩, hl⟩, h1⟩, h2⟩ := h
      subst e1
      split at h2
      · exact popr0_ok (sndE a g h1) hb hl
      · contradiction
      · cases h2
    · cases h
  | .popr a (some b), X, W, e, g, h => by
    unfold chkE at h
    split at h
    · simp only [Bool.and_eq_true, decide_eq_true_eq] at h
      obtain ⟨⟨⟨⟨e1, hb⟩, hl⟩, h1⟩, h2⟩ := h
      subst e1
      split at h2
      · contradiction
      · rename_i z
        cases z
        simp only [Bool.and_eq_true] at h2
        exact popr1_ok (sndE a g h1) (sndE b g h2.2) h2.1 hb hl
      · cases h2
    · cases h
termination_by a => 3 * sizeOf a
decreasing_by all_goals first | (simp_wf; done) | (simp_wf; omega)
theorem sndW : ∀ (a : E) {X : Cx} {W : WX} {op : BoolOp} {es : List Expr} {pos : Pos}, testable a = true → Good X St Z W G sub k calm → chkE St calm X.env.scope a (.BoolOp op es pos) = true → PW X (.BoolOp op es pos) (tB X.K Z W fun ss => (evE G sub a ss).bind asBool)
  | .and a b, X, W, op, es, pos, ht, g, h => by
    unfold chkE at h
    split at h
    · rename_i x y r pos' heq
      cases heq
      simp only [Bool.and_eq_true] at h
      simp only [testable, Bool.and_eq_true] at ht
      refine PW.imp (pw_and (sndT a ht.1 g h.1) (sndW b ht.2 g h.2)) fun σ H Q ⟨F, ss, rel, p⟩ => ⟨F, ss, rel, ?_⟩
      have pa : PostB X.K Z W (((evE G sub a ss).bind asBool).bind fun t => if t then (evE G sub b ss).bind asBool else M.ok false) F H σ Q := by
        have e := and_bool (G := G) (sub := sub) a b ss
        rw [← e]; exact p
      refine (PostB.bind pa).mono fun i F1 H1 e1 x1 p1 => ?_
      cases i with
      | true => rw [if_pos rfl]; rw [if_pos rfl] at p1; exact ⟨F1, ss, rel.grow x1, p1⟩
      | false => rw [if_neg Bool.false_ne_true]; rw [if_neg Bool.false_ne_true] at p1; exact p1 F1 H1 rfl (Ext.refl x1.ok)
    · cases h
  | .or a b, X, W, op, es, pos, ht, g, h => by
    unfold chkE at h
    split at h
    · rename_i x y r pos' heq
      cases heq
      simp only [Bool.and_eq_true] at h
      simp only [testable, Bool.and_eq_true] at ht
      refine PW.imp (pw_or (sndT a ht.1 g h.1) (sndW b ht.2 g h.2)) fun σ H Q ⟨F, ss, rel, p⟩ => ⟨F, ss, rel, ?_⟩
      have pa : PostB X.K Z W (((evE G sub a ss).bind asBool).bind fun t => if t then M.ok true else (evE G sub b ss).bind asBool) F H σ Q := by
        have e := or_bool (G := G) (sub := sub) a b ss
        rw [← e]; exact p
      refine (PostB.bind pa).mono fun i F1 H1 e1 x1 p1 => ?_
      cases i with
      | true => rw [if_pos rfl]; rw [if_pos rfl] at p1; exact p1 F1 H1 rfl (Ext.refl x1.ok)
      | false => rw [if_neg Bool.false_ne_true]; rw [if_neg Bool.false_ne_true] at p1; exact ⟨F1, ss, rel.grow x1, p1⟩
    · cases h
  | .one a, X, W, op, es, pos, ht, g, h => by
    unfold chkE at h
    split at h
    · rename_i op' x pos' heq
      cases heq
      have A := sndT a (by simpa [testable] using ht) g h
      cases op with
      | And => exact PW.imp (pw_and1 A) fun σ H Q ⟨F, ss, rel, p⟩ => ⟨F, ss, rel, by simpa only [evE] using p⟩
      | Or => exact PW.imp (pw_or1 A) fun σ H Q ⟨F, ss, rel, p⟩ => ⟨F, ss, rel, by simpa only [evE] using p⟩
    · cases h
  | .box _, X, W, op, es, pos, ht, g, h => by simp [testable] at ht
  | .var i, X, W, op, es, pos, ht, g, h => by simp [chkE] at h
  | .k d, X, W, op, es, pos, ht, g, h => by simp [chkE] at h
  | .gl x d, X, W, op, es, pos, ht, g, h => by simp [chkE] at h
  | .tup _, X, W, op, es, pos, ht, g, h => by simp [chkE] at h
  | .lst _, X, W, op, es, pos, ht, g, h => by simp [chkE] at h
  | .op _ _ _, X, W, op, es, pos, ht, g, h => by simp [chkE] at h
  | .neg _, X, W, op, es, pos, ht, g, h => by simp [chkE] at h
  | .not _, X, W, op, es, pos, ht, g, h => by simp [chkE] at h
  | .cmp _ _ _, X, W, op, es, pos, ht, g, h => by simp [chkE] at h
  | .chain _ _ _ _ _, X, W, op, es, pos, ht, g, h => by simp [chkE] at h
  | .ite _ _ _, X, W, op, es, pos, ht, g, h => by simp [chkE] at h
  | .call _ _, X, W, op, es, pos, ht, g, h => by simp [chkE] at h
  | .blt _ _, X, W, op, es, pos, ht, g, h => by simp [chkE] at h
  | .ix _ _, X, W, op, es, pos, ht, g, h => by simp [chkE] at h
  | .sl _ _ _, X, W, op, es, pos, ht, g, h => by simp [chkE] at h
  | .isi _ _, X, W, op, es, pos, ht, g, h => by simp [chkE] at h
  | .isx _ _, X, W, op, es, pos, ht, g, h => by simp [chkE] at h
  | .lc _ _ _ _ _, X, W, op, es, pos, ht, g, h => by simp [chkE] at h
  | .fld _ _ _, X, W, op, es, pos, ht, g, h => by simp [chkE] at h
  | .new _ _ _ _, X, W, op, es, pos, ht, g, h => by simp [chkE] at h
  | .mth _ _ _ _, X, W, op, es, pos, ht, g, h => by simp [chkE] at h
  | .ixr _ _, X, W, op, es, pos, ht, g, h => by simp [chkE] at h
  | .slr _ _ _, X, W, op, es, pos, ht, g, h => by simp [chkE] at h
  | .cmpr _ _ _, X, W, op, es, pos, ht, g, h => by simp [chkE] at h
  | .chn _ _ _, X, W, op, es, pos, ht, g, h => by simp [chkE] at h
  | .orV _ _, X, W, op, es, pos, ht, g, h => by simp [testable] at ht
  | .sm _ _ _, X, W, op, es, pos, ht, g, h => by simp [chkE] at h
  | .fs _, X, W, op, es, pos, ht, g, h => by simp [chkE] at h
  | .lrng _ _, X, W, op, es, pos, ht, g, h => by simp [chkE] at h
  | .lset _, X, W, op, es, pos, ht, g, h => by simp [chkE] at h
  | .popr _ _, X, W, op, es, pos, ht, g, h => by simp [chkE] at h
  | .bltr _ _, X, W, op, es, pos, ht, g, h => by simp [chkE] at h
termination_by a => 3 * sizeOf a + 1
decreasing_by all_goals first | (simp_wf; done) | (simp_wf; omega)
theorem sndT : ∀ (a : E) {X : Cx} {W : WX} {e : Expr}, testable a = true → Good X St Z W G sub k calm → chkE St calm X.env.scope a e = true → PT X e (tB X.K Z W fun ss => (evE G sub a ss).bind asBool)
  | .and a b, X, W, e, ht, g, h => by
    have h0 := h
    unfold chkE at h0
    split at h0
    · exact (sndW (.and a b) ht g h).pt
    · cases h0
  | .or a b, X, W, e, ht, g, h => by
    have h0 := h
    unfold chkE at h0
    split at h0
    · exact (sndW (.or a b) ht g h).pt
    · cases h0
  | .one a, X, W, e, ht, g, h => by
    have h0 := h
    unfold chkE at h0
    split at h0
    · exact (sndW (.one a) ht g h).pt
    · cases h0
  | .not a, X, W, e, ht, g, h => by
    unfold chkE at h
    split at h
    · refine PT.imp (pt_not (sndT a (by simpa [testable] using ht) g h)) fun σ H Q ⟨F, ss, rel, p⟩ => ⟨F, ss, rel, ?_⟩
      have pa : PostB X.K Z W (((evE G sub a ss).bind asBool).bind fun t => M.ok (!t)) F H σ Q := by
        have e := not_bool (G := G) (sub := sub) a ss
        rw [← e]; exact p
      exact (PostB.bind pa).mono fun i F1 H1 e1 x1 p1 => p1 F1 H1 rfl (Ext.refl x1.ok)
    · cases h
  | .cmp o a b, X, W, e, ht, g, h => by
    unfold chkE at h
    split at h
    · simp only [Bool.and_eq_true, decide_eq_true_eq, Bool.not_eq_true'] at h
      obtain ⟨⟨⟨rfl, hm⟩, h1⟩, h2⟩ := h
      exact PT.imp (pt_cmpR (op_cmpD (Z := Z) (W := W) g.un _) (sndE a g h1) (sndE b g h2) hm) fun σ H Q q => tE_two (by simpa only [evE] using tB_of q)
    · cases h
  | .cmpr o a b, X, W, e, ht, g, h => by
    unfold chkE at h
    split at h
    · simp only [Bool.and_eq_true, decide_eq_true_eq, Bool.not_eq_true'] at h
      obtain ⟨⟨⟨rfl, hm⟩, h1⟩, h2⟩ := h
      exact PT.imp (pt_cmpR (op_cmpD (Z := Z) (W := W) g.un _) (sndE a g h1) (sndE b g h2) hm) fun σ H Q q => tE_twoRR (by simpa only [evE] using tB_of q)
    · cases h
  | .chain o p a b c, X, W, e, ht, g, h => by
    unfold chkE at h
    split at h
    · simp only [Bool.and_eq_true, decide_eq_true_eq, Bool.not_eq_true'] at h
      obtain ⟨⟨⟨⟨⟨rfl, rfl⟩, hm⟩, h1⟩, h2⟩, h3⟩ := h
      exact PT.imp (pt_chain (op_cmpD (Z := Z) (W := W) g.un _) (op_cmpD (Z := Z) (W := W) g.un _) (sndE a g h1) (sndE b g h2) (sndE c g h3) hm) fun σ H Q q => chain_two (by simpa only [evE] using tB_of q)
    · cases h
  | .ite _ _ _, X, W, e, ht, g, h => by simp [testable] at ht
  | .box _, X, W, e, ht, g, h => by simp [testable] at ht
  | .var v0, X, W, e, ht, g, h => PT.imp (pt_val (sndE (.var v0) g h) (plainTest_of (by unfold chkE at h; split at h <;> first | rfl | cases h))) fun σ H Q q => tB_of q
  | .k v0, X, W, e, ht, g, h => PT.imp (pt_val (sndE (.k v0) g h) (plainTest_of (by unfold chkE at h; split at h <;> first | rfl | cases h))) fun σ H Q q => tB_of q
  | .gl v0 v1, X, W, e, ht, g, h => PT.imp (pt_val (sndE (.gl v0 v1) g h) (plainTest_of (by unfold chkE at h; split at h <;> first | rfl | cases h))) fun σ H Q q => tB_of q
  | .tup v0, X, W, e, ht, g, h => PT.imp (pt_val (sndE (.tup v0) g h) (plainTest_of (by unfold chkE at h; split at h <;> first | rfl | cases h))) fun σ H Q q => tB_of q
  | .lst v0, X, W, e, ht, g, h => PT.imp (pt_val (sndE (.lst v0) g h) (plainTest_of (by unfold chkE at h; split at h <;> first | rfl | cases h))) fun σ H Q q => tB_of q
  | .op v0 v1 v2, X, W, e, ht, g, h => PT.imp (pt_val (sndE (.op v0 v1 v2) g h) (plainTest_of (by unfold chkE at h; split at h <;> first | rfl | cases h))) fun σ H Q q => tB_of q
  | .neg v0, X, W, e, ht, g, h => PT.imp (pt_val (sndE (.neg v0) g h) (plainTest_of (by unfold chkE at h; split at h <;> first | rfl | cases h))) fun σ H Q q => tB_of q
  | .call v0 v1, X, W, e, ht, g, h => PT.imp (pt_val (sndE (.call v0 v1) g h) (plainTest_of (by unfold chkE at h; split at h <;> first | rfl | cases h))) fun σ H Q q => tB_of q
  | .blt v0 v1, X, W, e, ht, g, h => PT.imp (pt_val (sndE (.blt v0 v1) g h) (plainTest_of (by unfold chkE at h; split at h <;> first | rfl | cases h))) fun σ H Q q => tB_of q
  | .ix v0 v1, X, W, e, ht, g, h => PT.imp (pt_val (sndE (.ix v0 v1) g h) (plainTest_of (by unfold chkE at h; split at h <;> first | rfl | cases h))) fun σ H Q q => tB_of q
  | .sl v0 v1 v2, X, W, e, ht, g, h => PT.imp (pt_val (sndE (.sl v0 v1 v2) g h) (plainTest_of (by unfold chkE at h; split at h <;> first | rfl | cases h))) fun σ H Q q => tB_of q
  | .isi v0 v1, X, W, e, ht, g, h => PT.imp (pt_val (sndE (.isi v0 v1) g h) (plainTest_of (by unfold chkE at h; split at h <;> first | rfl | cases h))) fun σ H Q q => tB_of q
  | .isx v0 v1, X, W, e, ht, g, h => PT.imp (pt_val (sndE (.isx v0 v1) g h) (plainTest_of (by unfold chkE at h; split at h <;> first | rfl | cases h))) fun σ H Q q => tB_of q
  | .lc v0 v1 v2 v3 v4, X, W, e, ht, g, h => PT.imp (pt_val (sndE (.lc v0 v1 v2 v3 v4) g h) (plainTest_of (by unfold chkE at h; split at h <;> first | rfl | cases h))) fun σ H Q q => tB_of q
  | .fld v0 v1 v2, X, W, e, ht, g, h => PT.imp (pt_val (sndE (.fld v0 v1 v2) g h) (plainTest_of (by unfold chkE at h; split at h <;> first | rfl | cases h))) fun σ H Q q => tB_of q
  | .new v0 v1 v2 v3, X, W, e, ht, g, h => PT.imp (pt_val (sndE (.new v0 v1 v2 v3) g h) (plainTest_of (by unfold chkE at h; split at h <;> first | rfl | cases h))) fun σ H Q q => tB_of q
  | .mth v0 v1 v2 v3, X, W, e, ht, g, h => PT.imp (pt_val (sndE (.mth v0 v1 v2 v3) g h) (plainTest_of (by unfold chkE at h; split at h <;> first | rfl | cases h))) fun σ H Q q => tB_of q
  | .ixr v0 v1, X, W, e, ht, g, h => PT.imp (pt_val (sndE (.ixr v0 v1) g h) (plainTest_of (by unfold chkE at h; split at h <;> first | rfl | cases h))) fun σ H Q q => tB_of q
  | .slr v0 v1 v2, X, W, e, ht, g, h => PT.imp (pt_val (sndE (.slr v0 v1 v2) g h) (plainTest_of (by unfold chkE at h; split at h <;> first | rfl | cases h))) fun σ H Q q => tB_of q
  | .chn a os es, X, W, e, ht, g, h => by
    unfold chkE at h
    split at h
    · simp only [Bool.and_eq_true, decide_eq_true_eq, Bool.not_eq_true'] at h
      obtain ⟨⟨⟨⟨ho, hl⟩, hm⟩, h1⟩, h2⟩ := h
      exact chnT_ok g.un (sndE a g h1) (sndL es g h2) ho hl hm
    · cases h
  | .orV _ _, X, W, e, ht, g, h => by simp [testable] at ht
  | .sm v0 v1 v2, X, W, e, ht, g, h => PT.imp (pt_val (sndE (.sm v0 v1 v2) g h) (plainTest_of (by unfold chkE at h; split at h <;> first | rfl | cases h))) fun σ H Q q => tB_of q
  | .fs v0, X, W, e, ht, g, h => PT.imp (pt_val (sndE (.fs v0) g h) (plainTest_of (by unfold chkE at h; split at h <;> first | rfl | cases h))) fun σ H Q q => tB_of q
  | .lrng v0 v1, X, W, e, ht, g, h => PT.imp (pt_val (sndE (.lrng v0 v1) g h) (plainTest_of (by unfold chkE at h; split at h <;> first | rfl | cases h))) fun σ H Q q => tB_of q
  | .lset v0, X, W, e, ht, g, h => PT.imp (pt_val (sndE (.lset v0) g h) (plainTest_of (by unfold chkE at h; split at h <;> first | rfl | cases h))) fun σ H Q q => tB_of q
  | .popr v0 v1, X, W, e, ht, g, h => PT.imp (pt_val (sndE (.popr v0 v1) g h) (plainTest_of (by unfold chkE at h; split at h <;> first | rfl | cases h))) fun σ H Q q => tB_of q
  | .bltr v0 v1, X, W, e, ht, g, h => PT.imp (pt_val (sndE (.bltr v0 v1) g h) (plainTest_of (by unfold chkE at h; split at h <;> first | rfl | cases h))) fun σ H Q q => tB_of q
termination_by a => 3 * sizeOf a + 2
decreasing_by all_goals first | (simp_wf; done) | (simp_wf; omega)
theorem sndO : ∀ (a : Option E) {X : Cx} {W : WX} {e : Option Expr}, Good X St Z W G sub k calm → chkO St calm X.env.scope a e = true → PO X e (tOI X.K Z W (evO G sub a))
  | none, X, W, e, g, h => by
    cases e with
    | none => exact PO.imp po_none fun σ H Q ⟨F, ss, rel, p⟩ => by unfold evO at p; exact p F H rfl (Ext.refl rel.ok)
    | some _ => simp [chkO] at h
  | some a, X, W, e, g, h => by
    cases e with
    | none => simp [chkO] at h
    | some e =>
      have h' : chkE St calm X.env.scope a e = true := by simpa [chkO] using h
      refine PO.imp (po_some (sndE a g h')) fun σ H Q ⟨F, ss, rel, p⟩ => ⟨F, ss, rel, ?_⟩
      unfold evO at p
      refine (PostO.bind p).toE fun r F1 H1 v e1 x1 p1 q => ?_
      cases r with
      | val d =>
        cases d with
        | int i =>
          have q' : Rep X.K F1 (.int i) v := q
          unfold Rep at q'
          exact ⟨i, q', p1 F1 H1 rfl (Ext.refl x1.ok)⟩
        | _ => exact (show False from p1).elim
      | _ => exact (show False from p1).elim
termination_by a => 3 * sizeOf a
decreasing_by all_goals first | (simp_wf; done) | (simp_wf; omega)
theorem sndA : ∀ (as : List E) {X : Cx} {W : WX} {es : List Expr}, Good X St Z W G sub k calm → chkEs St calm X.env.scope as es = true → PA X es (tDs X.K Z W (evF G sub as))
  | [], X, W, es, g, h => by
    unfold chkEs at h
    split at h
    · exact pa_nilD
    · cases h
  | a :: as, X, W, es, g, h => by
    unfold chkEs at h
    split at h
    · simp only [Bool.and_eq_true] at h
      exact pa_consD h.1.1 (sndE a g h.1.2) (sndA as g h.2)
    · cases h
termination_by a => 3 * sizeOf a
decreasing_by all_goals first | (simp_wf; done) | (simp_wf; omega)
theorem sndC : ∀ (c : Option E) {X : Cx} {W : WX} {ifs : List Expr}, Good X St Z W G sub k calm → (match c, ifs with
      | none, [] => true
      | some c', [q] => testable c' && chkE St calm X.env.scope c' q
      | _, _ => false) = true → PTs X ifs (tB X.K Z W (evC G sub c))
  | none, X, W, ifs, g, h => by
    cases ifs with
    | nil =>
      refine PTs.imp pts_nil fun σ H Q ⟨F, ss, rel, p⟩ => ?_
      unfold evC at p
      exact p F H rfl (Ext.refl rel.ok)
    | cons _ _ => cases h
  | some c', X, W, ifs, g, h => by
    cases ifs with
    | nil => cases h
    | cons q qs =>
      cases qs with
      | nil =>
        simp only [Bool.and_eq_true] at h
        exact PTs.imp (pts_one (sndT c' h.1 g h.2)) fun σ H Q q => by simpa only [evC] using q
      | cons _ _ => cases h
termination_by a => 3 * sizeOf a
decreasing_by all_goals first | (simp_wf; done) | (simp_wf; omega)
theorem sndR : ∀ (as : List E) {X : Cx} {W : WX} {es : List Expr}, Good X St Z W G sub k calm → chkEs St calm X.env.scope as es = true → PA X es (tRs X.K Z W (evs G sub as))
  | [], X, W, es, g, h => by
    unfold chkEs at h
    split at h
    · exact PA.imp pa_nil fun σ H Q ⟨F, ss, rel, p⟩ => by unfold evs at p; exact p F H rfl (Ext.refl rel.ok) [] .nil
    · cases h
  | a :: as, X, W, es, g, h => by
    unfold chkEs at h
    split at h
    · simp only [Bool.and_eq_true] at h
      refine PA.imp (pa_cons (sndE a g h.1.2) (sndR as g h.2) (starEach_of h.1.1)) fun σ H Q ⟨F, ss, rel, p⟩ => ⟨F, ss, rel, ?_⟩
      unfold evs at p
      refine PostM.toE (PostM.bind p) fun r F1 H1 v e1 x1 p1 q => ⟨F1, ss, rel.grow x1, ?_⟩
      refine (PostM.bind p1).mono fun rs F2 H2 e2 x2 p2 vs qs => ?_
      exact p2 F2 H2 rfl (Ext.refl x2.ok) (v :: vs) (.cons (RepR.ext x2 q) (Paired.mapP qs fun _ _ z => RepR.back (fun _ => x1.free) z))
    · cases h
termination_by a => 3 * sizeOf a
decreasing_by all_goals first | (simp_wf; done) | (simp_wf; omega)
theorem sndL : ∀ (as : List E) {X : Cx} {W : WX} {es : List Expr}, Good X St Z W G sub k calm → chkEs St calm X.env.scope as es = true → AllPE X Z W G sub as es
  | [], X, W, es, g, h => by
    unfold chkEs at h
    split at h
    · exact .nil
    · cases h
  | a :: as, X, W, es, g, h => by
    unfold chkEs at h
    split at h
    · simp only [Bool.and_eq_true] at h
      exact .cons h.1.1 (sndE a g h.1.2) (sndL as g h.2)
    · cases h
termination_by a => 3 * sizeOf a
decreasing_by all_goals first | (simp_wf; done) | (simp_wf; omega)
theorem sndJ : ∀ (as : List E) {X : Cx} {W : WX} {es : List Expr}, Good X St Z W G sub k calm → chkJ St calm X.env.scope as es = true → AllJ X Z W G sub as es
  | [], X, W, es, g, h => by
    unfold chkJ at h
    split at h
    · exact .nil
    · cases h
  | a :: as, X, W, es, g, h => by
    unfold chkJ at h
    split at h
    · simp only [Bool.and_eq_true, decide_eq_true_eq] at h
      obtain ⟨⟨e1, h1⟩, h2⟩ := h
      subst e1
      exact .fmt (sndE a g h1) (sndJ as g h2)
    · rw [Bool.and_eq_true] at h
      obtain ⟨h1, h2⟩ := h
      split at h1
      · have e := of_decide_eq_true h1
        subst e
        exact .str (PE.imp pe_str fun σ H Q q => q) (sndJ as g h2)
      · cases h1
    · cases h
termination_by a => 3 * sizeOf a
decreasing_by all_goals first | (simp_wf; done) | (simp_wf; omega)
theorem sndI : ∀ (i : I) {X : Cx} {W : WX} {tg e : Expr}, Good X St Z W G sub k calm → chkI St calm X.env.scope i tg e = true → PI X tg e (tI X.K Z W (evI G sub i))
  | .seq a, X, W, tg, e, g, h => by
    unfold chkI at h
    have A := sndE a g h
    refine ⟨fun pins s σ H RR I q => ?_⟩
    obtain ⟨F, ss, rel, q⟩ := q
    unfold evI at q
    unfold PostM at q
    cases e : evE G sub a ss F.st with
    | ex c st =>
      have e2 : ((evE G sub a ss).bind fun x => itD x.view x.fx) F.st = .ex c st := by unfold M.bind; rw [e]
      rw [e2] at q
      exact (pi_list A).run pins s σ H RR I ⟨F, ss, rel, by unfold PostE PostM; rw [e]; exact q⟩
    | bad =>
      have e2 : ((evE G sub a ss).bind fun x => itD x.view x.fx) F.st = .bad := by unfold M.bind; rw [e]
      rw [e2] at q; exact q.elim
    | ok r st =>
      have e2 : ((evE G sub a ss).bind fun x => itD x.view x.fx) F.st = itD r.view r.fx st := by unfold M.bind; rw [e]
      rw [e2] at q
      cases ev : r.view with
      | lst xs =>
        rw [ev] at q
        refine (pi_list A).run pins s σ H RR I ⟨F, ss, rel, PostM.of_ok e fun F1 H1 hs x1 v rv => ?_⟩
        subst hs
        obtain ⟨F2, s2, x2, r2, l2⟩ := RepR.harden x1 rv
        obtain ⟨b, rfl, h1, h2, h3⟩ := src_ok x2.ok r2 (lstr_view ev _)
        refine ⟨b, rfl, h1, q F2 H1 s2 x2 _ (walkD_list fun F3 H3 k3 g3 => h2 F3 H3 k3 g3.1 g3.2) fun z => walkD_list fun F3 H3 k3 g3 => h3 z F3 H3 k3 g3.1 g3.2⟩
      | scr xs =>
        rw [ev] at q
        refine (pi_list A).run pins s σ H RR I ⟨F, ss, rel, PostM.of_ok e fun F1 H1 hs x1 v rv => ?_⟩
        subst hs
        have er : r = .val (.scr xs) := by
          cases r with
          | val d => have z : d = .scr xs := ev; rw [z]
          | own ys => cases ev
          | bor ys => cases ev
        subst er
        have r2 : Rep X.K F1 (.scr xs) v := rv
        unfold Rep at r2
        obtain ⟨b, us, rfl, h1, h2⟩ := r2
        have go : ∀ F3 H3, Ok X.K F3 H3 → Le F1 F3 → ∃ vs, SqL X.K H3 b vs ∧ Reps X.K F3 xs vs := fun F3 H3 k3 le => ⟨us, k3.sub.seq (le.h.seq h1), Reps.mono le _ _ h2⟩
        exact ⟨b, rfl, ⟨us, x1.ok.sub.seq h1⟩, q F1 H1 rfl x1 _ (walkD_list fun F3 H3 k3 g3 => go F3 H3 k3 g3.1.le) fun _ => walkD_list fun F3 H3 k3 g3 => go F3 H3 k3 g3.1⟩
      | tup xs =>
        rw [ev] at q
        refine (pi_tup A).run pins s σ H RR I ⟨F, ss, rel, PostM.of_ok e fun F1 H1 hs x1 v rv => ?_⟩
        subst hs
        have er : r = .val (.tup xs) := by
          cases r with
          | val d => have z : d = .tup xs := ev; rw [z]
          | own ys => cases ev
          | bor ys => cases ev
        subst er
        have r2 : Rep X.K F1 (.tup xs) v := rv
        unfold Rep at r2
        obtain ⟨b, us, rfl, h1, h2⟩ := r2
        have go : ∀ F3 H3, Ok X.K F3 H3 → Le F1 F3 → ∃ vs, SqT X.K H3 b vs ∧ Reps X.K F3 xs vs := fun F3 H3 k3 le => ⟨us, Same.seqT k3.sub (Same.seqT le.h h1), Reps.mono le _ _ h2⟩
        exact ⟨b, rfl, ⟨us, Same.seqT x1.ok.sub h1⟩, q F1 H1 rfl x1 _ (walkD_tup fun F3 H3 k3 g3 => go F3 H3 k3 g3.1.le) fun _ => walkD_tup fun F3 H3 k3 g3 => go F3 H3 k3 g3.1⟩
      | str z =>
        rw [ev] at q
        refine (pi_str A).run pins s σ H RR I ⟨F, ss, rel, PostM.of_ok e fun F1 H1 hs x1 v rv => ?_⟩
        subst hs
        have er : r = .val (.str z) := by
          cases r with
          | val d => have y : d = .str z := ev; rw [y]
          | own ys => cases ev
          | bor ys => cases ev
        subst er
        have r2 : Rep X.K F1 (.str z) v := rv
        unfold Rep at r2
        exact ⟨z, r2, q F1 H1 rfl x1 _ walkD_str fun _ => walkD_str⟩
      | non => rw [ev] at q; exact (show False from q).elim
      | bl _ => rw [ev] at q; exact (show False from q).elim
      | int _ => rw [ev] at q; exact (show False from q).elim
      | obj _ => rw [ev] at q; exact (show False from q).elim
  | .rng es, X, W, tg, e, g, h => by
    unfold chkI at h
    split at h
    · rename_i f pf a pos
      simp only [Bool.and_eq_true, decide_eq_true_eq] at h
      obtain ⟨⟨⟨⟨⟨hc, hf⟩, hg⟩, hb⟩, hn⟩, he⟩ := h
      subst hf
      have AA := sndA es g he
      split at hn
      · rename_i a'
        have he' := he
        unfold chkEs at he'
        simp only [Bool.and_eq_true] at he'
        refine PI.imp (pi_range1 (glob_of hg) (g.blt _ hb) AA (starEach_of he'.1.1)) fun σ H RR ⟨F, ss, rel, q⟩ => ⟨F, ss, rel, ?_⟩
        unfold evI at q
        refine (PostM.bind q).mono fun ds F1 H1 e1 x1 q1 vs rs => ?_
        have hl := evF_len e1
        match ds, hl, rs, q1 with
        | [d], _, rs, q1 =>
          unfold Reps at rs
          obtain ⟨v, r, rfl, r1, r2⟩ := rs
          unfold Reps at r2
          subst r2
          cases d with
          | int j =>
            change PostM X.K Z W (guardM (small j) (M.ok (Its.mk (rngL 0 j) [] true))) F1 H1 σ _ at q1
            cases hs : small j with
            | false => rw [hs] at q1; exact (show False from q1).elim
            | true =>
            rw [hs] at q1
            have q2 := q1
            unfold small at hs
            simp only [Bool.and_eq_true, decide_eq_true_eq] at hs
            unfold Rep at r1
            subst r1
            have w : ∀ G, WalkD X.K G (Itr 0 j.toNat) (rngL 0 j) := fun G => by have := walkD_rng (K := X.K) (G := G) (lo := 0) (hi := j); rwa [Int.sub_zero] at this
            exact ⟨j, rfl, by omega, by omega, q2 F1 H1 rfl (Ext.refl x1.ok) _ (w _) fun _ => w _⟩
          | _ => exact (show False from q1).elim
      · cases hn
    · rename_i f pf a b pos
      simp only [Bool.and_eq_true, decide_eq_true_eq] at h
      obtain ⟨⟨⟨⟨⟨hc, hf⟩, hg⟩, hb⟩, hn⟩, he⟩ := h
      subst hf
      have AA := sndA es g he
      split at hn
      · rename_i a' b'
        have he' := he
        unfold chkEs at he'
        simp only [Bool.and_eq_true] at he'
        have he2 := he'.2
        unfold chkEs at he2
        simp only [Bool.and_eq_true] at he2
        refine PI.imp (pi_range2 (glob_of hg) (g.blt _ hb) AA (by rw [starEach_of he'.1.1, starEach_of he2.1.1]; rfl) (starEach_of he2.1.1)) fun σ H RR ⟨F, ss, rel, q⟩ => ⟨F, ss, rel, ?_⟩
        unfold evI at q
        refine (PostM.bind q).mono fun ds F1 H1 e1 x1 q1 vs rs => ?_
        have hl := evF_len e1
        match ds, hl, rs, q1 with
        | [d, d'], _, rs, q1 =>
          unfold Reps at rs
          obtain ⟨v, r, rfl, r1, r2⟩ := rs
          unfold Reps at r2
          obtain ⟨w, r', rfl, r3, r4⟩ := r2
          unfold Reps at r4
          subst r4
          cases d with
          | int i =>
            cases d' with
            | int j =>
              change PostM X.K Z W (guardM (small i && small j) (M.ok (Its.mk (rngL i j) [] true))) F1 H1 σ _ at q1
              cases hs : small i && small j with
              | false => rw [hs] at q1; exact (show False from q1).elim
              | true =>
              rw [hs] at q1
              have q2 := q1
              unfold small at hs
              simp only [Bool.and_eq_true, decide_eq_true_eq] at hs
              unfold Rep at r1 r3
              subst r1 r3
              exact ⟨i, j, rfl, ⟨by omega, by omega, by omega, by omega⟩, q2 F1 H1 rfl (Ext.refl x1.ok) _ walkD_rng fun _ => walkD_rng⟩
            | _ => exact (show False from q1).elim
          | _ => exact (show False from q1).elim
      · cases hn
    · cases h
  | .enum a, X, W, tg, e, g, h => by
    unfold chkI at h
    split at h
    · rename_i f pf a' pos
      simp only [Bool.and_eq_true, decide_eq_true_eq] at h
      obtain ⟨⟨⟨⟨⟨hf, hg⟩, hb⟩, ht⟩, hs⟩, he⟩ := h
      subst hf
      have A := pa_cons (sndE a g he) pa_nil (starEach_of hs)
      cases tg with
      | Tuple elts kk tpos =>
        refine PI.imp (pi_enumA (tpos := tpos) (elts := elts) (kk := kk) (glob_of hg) (g.blt _ hb) A (starEach_of hs)) fun σ H RR ⟨F, ss, rel, q⟩ => ⟨F, ss, rel, ?_⟩
        unfold evI at q
        unfold PostM at q
        cases e : evE G sub a ss F.st with
        | ex c st =>
          have e2 : ((evE G sub a ss).bind fun x => enumD x.view x.fx) F.st = .ex c st := by unfold M.bind; rw [e]
          rw [e2] at q
          unfold PostE PostM; rw [e]; exact q
        | bad =>
          have e2 : ((evE G sub a ss).bind fun x => enumD x.view x.fx) F.st = .bad := by unfold M.bind; rw [e]
          rw [e2] at q; exact q.elim
        | ok r st =>
          have e2 : ((evE G sub a ss).bind fun x => enumD x.view x.fx) F.st = enumD r.view r.fx st := by unfold M.bind; rw [e]
          rw [e2] at q
          refine PostM.of_ok e fun F1 H1 hs x1 v rv => ?_
          subst hs
          cases ev : r.view with
          | lst xs =>
            rw [ev] at q
            obtain ⟨F2, s2, x2, r2, l2⟩ := RepR.harden x1 rv
            obtain ⟨b, rfl, ⟨us, h1⟩, h2, h3⟩ := src_ok x2.ok r2 (lstr_view ev _)
            exact ⟨b, us, rfl, .inl ⟨h1, q F2 H1 s2 x2 _ (walkD_enum fun F3 H3 k3 g3 => h2 F3 H3 k3 g3.1 g3.2) fun z => walkD_enum fun F3 H3 k3 g3 => h3 z F3 H3 k3 g3.1 g3.2⟩⟩
          | tup us =>
            rw [ev] at q
            have er : r = .val (.tup us) := by
              cases r with
              | val d => have z : d = .tup us := ev; rw [z]
              | own ys => cases ev
              | bor ys => cases ev
            rw [er] at rv
            have t1 : Rep X.K F1 (.tup us) v := rv
            unfold Rep at t1
            obtain ⟨b1, us1, rfl, h1, h2⟩ := t1
            have go : ∀ F3 H3, Ok X.K F3 H3 → Le F1 F3 → ∃ vs, SqT X.K H3 b1 vs ∧ Reps X.K F3 us vs := fun F3 H3 k3 le =>
              ⟨us1, Same.seqT k3.sub (Same.seqT le.h h1), Reps.mono le _ _ h2⟩
            exact ⟨b1, us1, rfl, .inr ⟨Same.seqT x1.ok.sub h1, q F1 H1 rfl x1 _ (walkD_enumT fun F3 H3 k3 g3 => go F3 H3 k3 g3.1.le) fun _ => walkD_enumT fun F3 H3 k3 g3 => go F3 H3 k3 g3.1⟩⟩
          | _ => rw [ev] at q; exact (show False from q).elim
      | _ => simp [tgIsTup] at ht
    · cases h
  | .zip a b, X, W, tg, e, g, h => by
    unfold chkI at h
    split at h
    · rename_i f pf y z pos
      simp only [Bool.and_eq_true, decide_eq_true_eq] at h
      obtain ⟨⟨⟨⟨⟨⟨⟨hf, hg⟩, hb⟩, ht⟩, hs⟩, hs2⟩, he⟩, he2⟩ := h
      subst hf
      have A := pa_cons (sndE a g he) (pa_cons (sndE b g he2) pa_nil (starEach_of hs2)) (starEach_of hs)
      cases tg with
      | Tuple elts kk tpos =>
        refine PI.imp (RZ.pi_zipA (p := pf) (pos := pos) (tpos := tpos) (elts := elts) (kk := kk) (glob_of hg) (g.blt _ hb) A (starEach_of hs) (starEach_any (by simp [hs2]))) fun σ H RR ⟨F, ss, rel, q⟩ => ⟨F, ss, rel, ?_⟩
        unfold evI at q
        refine hard2 (Q' := fun vs H1 => ∃ a b xs ys, vs = [V.ref a, V.ref b] ∧ (SqL X.K H1 a xs ∧ SqL X.K H1 b ys ∧ RR (Itz X.K a b) H1 ∨ SqT X.K H1 a xs ∧ SqT X.K H1 b ys ∧ RR (RZ.ItzT X.K a b) H1)) rel q fun r F2 H2 v r' v' x2 q1 q2 q3 => ?_
        have p3 : ∀ d d', r.view = d → r'.view = d' → PostM X.K Z W (zipD d d' (r.fx && r'.fx)) F2 H2 σ _ := fun d d' e1 e2 => by rw [← e1, ← e2]; exact q3
        cases ev : r.view with
        | lst us =>
          cases ev' : r'.view with
          | lst ws =>
            have p4 := p3 _ _ ev ev'
            obtain ⟨b1, rfl, ⟨us1, h1⟩, h2, h3⟩ := src_ok x2.ok q1 (lstr_view ev _)
            obtain ⟨b2, rfl, ⟨us2, h4⟩, h5, h6⟩ := src_ok x2.ok q2 (lstr_view ev' _)
            refine ⟨b1, b2, us1, us2, rfl, .inl ⟨h1, h4, p4 F2 H2 rfl (Ext.refl x2.ok) _ (walkD_zipL fun F3 H3 k3 g3 => ⟨h2 F3 H3 k3 g3.1 g3.2, h5 F3 H3 k3 g3.1 g3.2⟩) fun z => ?_⟩⟩
            rw [Bool.and_eq_true] at z
            exact walkD_zipL fun F3 H3 k3 g3 => ⟨h3 z.1 F3 H3 k3 g3.1 g3.2, h6 z.2 F3 H3 k3 g3.1 g3.2⟩
          | _ => exact (show False from p3 _ _ ev ev').elim
        | tup us =>
          cases ev' : r'.view with
          | tup ws =>
            have p4 := p3 _ _ ev ev'
            have er : ∀ {r : R} {us}, r.view = .tup us → r = .val (.tup us) := fun {r us} h => by
              cases r with
              | val d => have z : d = .tup us := h; rw [z]
              | own ys => cases h
              | bor ys => cases h
            rw [er ev] at q1
            rw [er ev'] at q2
            have t1 : Rep X.K F2 (.tup us) v := q1
            have t2 : Rep X.K F2 (.tup ws) v' := q2
            unfold Rep at t1 t2
            obtain ⟨b1, us1, rfl, h1, h2⟩ := t1
            obtain ⟨b2, us2, rfl, h3, h4⟩ := t2
            have go : ∀ F3 H3, Ok X.K F3 H3 → Le F2 F3 → (∃ vs, SqT X.K H3 b1 vs ∧ Reps X.K F3 us vs) ∧ ∃ vs, SqT X.K H3 b2 vs ∧ Reps X.K F3 ws vs := fun F3 H3 k3 le =>
              ⟨⟨us1, Same.seqT k3.sub (Same.seqT le.h h1), Reps.mono le _ _ h2⟩, us2, Same.seqT k3.sub (Same.seqT le.h h3), Reps.mono le _ _ h4⟩
            exact ⟨b1, b2, us1, us2, rfl, .inr ⟨Same.seqT x2.ok.sub h1, Same.seqT x2.ok.sub h3, p4 F2 H2 rfl (Ext.refl x2.ok) _ (walkD_zipT fun F3 H3 k3 g3 => go F3 H3 k3 g3.1.le) fun _ => walkD_zipT fun F3 H3 k3 g3 => go F3 H3 k3 g3.1⟩⟩
          | _ => exact (show False from p3 _ _ ev ev').elim
        | _ => exact (show False from p3 _ _ ev rfl).elim
      | _ => simp [tgIsTup] at ht
    · cases h
  | .seqr a, X, W, tg, e, g, h => by
    unfold chkI at h
    have A := sndE a g h
    refine PI.imp (pi_list A) fun σ H RR ⟨F, ss, rel, q⟩ => ⟨F, ss, rel, ?_⟩
    unfold evI at q
    refine hard1 (m := evE G sub a) q fun r F1 H1 v x1 xs gd e1 q1 q2 => ?_
    obtain ⟨b, rfl, h1, h2, h3⟩ := src_ok x1.ok q1 e1
    exact ⟨b, rfl, h1, q2 F1 H1 rfl (Ext.refl x1.ok) _ (walkD_list fun F3 H3 k3 g3 => h2 F3 H3 k3 g3.1 g3.2) fun z => walkD_list fun F3 H3 k3 g3 => h3 z F3 H3 k3 g3.1 g3.2⟩
  | .enumr a, X, W, tg, e, g, h => by
    unfold chkI at h
    split at h
    · rename_i f pf a' pos
      simp only [Bool.and_eq_true, decide_eq_true_eq] at h
      obtain ⟨⟨⟨⟨⟨hf, hg⟩, hb⟩, ht⟩, hs⟩, he⟩ := h
      subst hf
      have A := pa_cons (sndE a g he) pa_nil (starEach_of hs)
      cases tg with
      | Tuple elts kk tpos =>
        refine PI.imp (pi_enum (tpos := tpos) (elts := elts) (kk := kk) (glob_of hg) (g.blt _ hb) A (starEach_of hs)) fun σ H RR ⟨F, ss, rel, q⟩ => ⟨F, ss, rel, ?_⟩
        unfold evI at q
        refine hard1 (m := evE G sub a) q fun r F1 H1 v x1 xs gd e1 q1 q2 => ?_
        obtain ⟨b, rfl, ⟨us, h1⟩, h2, h3⟩ := src_ok x1.ok q1 e1
        exact ⟨b, us, rfl, h1, q2 F1 H1 rfl (Ext.refl x1.ok) _ (walkD_enum fun F3 H3 k3 g3 => h2 F3 H3 k3 g3.1 g3.2) fun z => walkD_enum fun F3 H3 k3 g3 => h3 z F3 H3 k3 g3.1 g3.2⟩
      | _ => simp [tgIsTup] at ht
    · cases h
  | .zipr a b, X, W, tg, e, g, h => by
    unfold chkI at h
    split at h
    · rename_i f pf y z pos
      simp only [Bool.and_eq_true, decide_eq_true_eq] at h
      obtain ⟨⟨⟨⟨⟨⟨⟨hf, hg⟩, hb⟩, ht⟩, hs⟩, hs2⟩, he⟩, he2⟩ := h
      subst hf
      have A := pa_cons (sndE a g he) (pa_cons (sndE b g he2) pa_nil (starEach_of hs2)) (starEach_of hs)
      cases tg with
      | Tuple elts kk tpos =>
        refine PI.imp (RZ.pi_zipA (p := pf) (pos := pos) (tpos := tpos) (elts := elts) (kk := kk) (glob_of hg) (g.blt _ hb) A (starEach_of hs) (starEach_any (by simp [hs2]))) fun σ H RR ⟨F, ss, rel, q⟩ => ⟨F, ss, rel, ?_⟩
        unfold evI at q
        refine hard2 (Q' := fun vs H1 => ∃ a b xs ys, vs = [V.ref a, V.ref b] ∧ (SqL X.K H1 a xs ∧ SqL X.K H1 b ys ∧ RR (Itz X.K a b) H1 ∨ SqT X.K H1 a xs ∧ SqT X.K H1 b ys ∧ RR (RZ.ItzT X.K a b) H1)) rel q fun r F2 H2 v r' v' x2 q1 q2 q3 => ?_
        obtain ⟨us, gd1, e1, q4⟩ := lstr_ok q3
        obtain ⟨ws, gd2, e2, q5⟩ := lstr_ok q4
        obtain ⟨b1, rfl, ⟨us1, h1⟩, h2, h3⟩ := src_ok x2.ok q1 e1
        obtain ⟨b2, rfl, ⟨us2, h4⟩, h5, h6⟩ := src_ok x2.ok q2 e2
        have s1 : ∀ st, Gd.ok (gd1 ++ gd2) st → Gd.ok gd1 st := fun st h p hp => h p (List.mem_append_left _ hp)
        have s2 : ∀ st, Gd.ok (gd1 ++ gd2) st → Gd.ok gd2 st := fun st h p hp => h p (List.mem_append_right _ hp)
        refine ⟨b1, b2, us1, us2, rfl, .inl ⟨h1, h4, q5 F2 H2 rfl (Ext.refl x2.ok) _ (walkD_zipL fun F3 H3 k3 g3 => ⟨h2 F3 H3 k3 g3.1 (s1 _ g3.2), h5 F3 H3 k3 g3.1 (s2 _ g3.2)⟩) fun z => ?_⟩⟩
        have z' : (r.fx && r'.fx) = true := z
        rw [Bool.and_eq_true] at z'
        exact walkD_zipL fun F3 H3 k3 g3 => ⟨h3 z'.1 F3 H3 k3 g3.1 (s1 _ g3.2), h6 z'.2 F3 H3 k3 g3.1 (s2 _ g3.2)⟩
      | _ => simp [tgIsTup] at ht
    · cases h
termination_by a => 3 * sizeOf a
decreasing_by all_goals first | (simp_wf; done) | (simp_wf; omega)
end
end
end EV

set_option Elab.async false
set_option linter.all false
set_option autoImplicit false
set_option maxRecDepth 100000
set_option maxHeartbeats 16000000
/-! EwC0: statements are what the evaluator says. -/
namespace EV
open PySem PySem.Spec PyProof.Rows L2

section
variable (K : PySem.W.Frag) (Z : Z0) (W : WX)
/-- a def's end -/
def RetR (st : Store) (r : R) (v : V) (H' : Hp) : Prop := ∃ F', F'.st = st ∧ Ext K Z.F0 Z.H0 F' H' ∧ RepR K Z.H0 F' H' r v ∧ (match r with | .bor _ => False | _ => True)
def PostF (z : EV.F) (f : Fz) (D : Ends) : Prop := match z f.st with
  | .nx ss st => ∀ σ' H' F', F'.st = st → Rel K Z F' ss σ' H' → Le f F' → D.nx σ' H'
  | .bk ss st => ∀ σ' H' F', F'.st = st → Rel K Z F' ss σ' H' → Le f F' → D.bk σ' H'
  | .ct ss st => ∀ σ' H' F', F'.st = st → Rel K Z F' ss σ' H' → Le f F' → D.ct σ' H'
  | .rt r st => ∀ v H', RetR K Z st r v H' → D.rt v H'
  | .ex c ss st => ∀ σ' H' F', F'.st = st → Rel K Z F' ss σ' H' → Le f F' → W (Z.cls c) none σ' H'
  | .bad => False
def tF (g : List S → EV.F) : TS := fun D σ H => ∃ f ss, Rel K Z f ss σ H ∧ PostF K Z W (g ss) f D
end
section
variable {K : PySem.W.Frag} {Z : Z0} {W : WX}
theorem PostF.grow {z : EV.F} {f f' : Fz} {D : Ends} (h : PostF K Z W z f D) (s : Le f f') (e : f'.st = f.st) : PostF K Z W z f' D := by
  unfold PostF at h ⊢
  rw [e]
  cases q : z f.st with
  | nx ss st => rw [q] at h; exact fun σ' H' F' es r q => h σ' H' F' es r (s.trans q)
  | bk ss st => rw [q] at h; exact fun σ' H' F' es r q => h σ' H' F' es r (s.trans q)
  | ct ss st => rw [q] at h; exact fun σ' H' F' es r q => h σ' H' F' es r (s.trans q)
  | rt r st => rw [q] at h; exact h
  | ex c ss st => rw [q] at h; exact fun σ' H' F' es r q => h σ' H' F' es r (s.trans q)
  | bad => rw [q] at h; exact h
/-- the next part starts at another place -/
theorem PostF.at {z y : EV.F} {f f' : Fz} {D : Ends} (h : PostF K Z W z f D) (s : Le f f') (e : z f.st = y f'.st) : PostF K Z W y f' D := by
  unfold PostF at h ⊢
  rw [e] at h
  cases q : y f'.st with
  | nx ss st => rw [q] at h; exact fun σ' H' F' es r q => h σ' H' F' es r (s.trans q)
  | bk ss st => rw [q] at h; exact fun σ' H' F' es r q => h σ' H' F' es r (s.trans q)
  | ct ss st => rw [q] at h; exact fun σ' H' F' es r q => h σ' H' F' es r (s.trans q)
  | rt r st => rw [q] at h; exact h
  | ex c ss st => rw [q] at h; exact fun σ' H' F' es r q => h σ' H' F' es r (s.trans q)
  | bad => rw [q] at h; exact h
theorem PSs.imp {X : Cx} {e : List Stmt} {t t' : TS} (h : PSs X e t) (i : ∀ D σ H, t' D σ H → t D σ H) : PSs X e t' := ⟨fun pins s σ H D I q => h.run pins s σ H D I (i D σ H q)⟩
theorem PS.imp {X : Cx} {e : Stmt} {t t' : TS} (h : PS X e t) (i : ∀ D σ H, t' D σ H → t D σ H) : PS X e t' := ⟨fun pins s σ H D I q => h.run pins s σ H D I (i D σ H q)⟩
/-- a part, then what a statement does with it -/
theorem PostF.f {α : Type} {m : M α} {ss : List S} {g : α → EV.F} {F : Fz} {H : Hp} {σ : L2.St} {D : Ends} (rel : Rel K Z F ss σ H) (p : PostF K Z W (m.f ss g) F D) : PostM K Z W m F H σ fun a F1 H1 => PostF K Z W (g a) F1 D := by
  unfold PostM
  cases e : m F.st with
  | ok a st =>
    intro F1 H1 hs x
    exact p.at x.le (by unfold M.f; rw [e, ← hs])
  | ex c st =>
    intro F1 H1 hs x
    have e2 : (m.f ss g) F.st = .ex c ss st := by unfold M.f; rw [e]
    unfold PostF at p; rw [e2] at p
    exact p σ H1 F1 hs (rel.grow x) x.le
  | bad =>
    have e2 : (m.f ss g) F.st = .bad := by unfold M.f; rw [e]
    unfold PostF at p; rw [e2] at p
    exact p
/-- nothing but the next statement -/
theorem PostF.nx {ss : List S} {F' : Fz} {H : Hp} {σ : L2.St} {D : Ends} (p : PostF K Z W (EV.F.nx ss) F' D) (rel : Rel K Z F' ss σ H) : D.nx σ H := p σ H F' rfl rel (Le.refl _)
/-- a value goes into a slot -/
theorem putR_ok {i : Nat} {r : R} {ss : List S} {f : Fz} {H0 H1 : Hp} {σ : L2.St} {v : V} {D : Ends} (rel : Rel K Z f ss σ H1) (s0 : ∀ a, H0 a = none → Z.H0 a = none) (q : RepR K H0 f H1 r v) (ho : ∀ (i : Nat) (a : Addr), σ[i]? = some (some (V.ref a)) → ∀ xs, ss[i]? = some (S.own xs) → ∃ o, H0 a = some o)
    (p : PostF K Z W (putR i r ss) f D) : D.nx (σ.set i (some v)) H1 := by
  unfold putR at p
  by_cases hl : i < ss.length
  · rw [if_pos hl] at p
    cases r with
    | val d => exact p.nx (rel.set q)
    | own xs =>
      obtain ⟨a, vs, rfl, h1, h2, h3, h4⟩ := q
      refine p.nx (rel.setOwn h1 h2 (s0 a h3) h4 fun j ys n z1 z2 => ?_)
      obtain ⟨o, h⟩ := ho j a z2 ys z1
      rw [h3] at h; cases h
    | bor xs => exact (show False from p).elim
  · rw [if_neg hl] at p; exact (show False from p).elim
theorem own_there {F : Fz} {ss : List S} {σ : L2.St} {H : Hp} (rel : Rel K Z F ss σ H) : ∀ (i : Nat) (a : Addr), σ[i]? = some (some (V.ref a)) → ∀ xs, ss[i]? = some (S.own xs) → ∃ o, H a = some o := fun i a ha xs hx => by
  obtain ⟨b, vs, h1, h2, _⟩ := rel.own i xs hx
  rw [ha] at h1; cases h1
  exact ⟨_, h2⟩
end

/-! ### the syntax -/
def notLc : Expr → Bool
  | .ListComp _ _ _ _ => false
  | .SetComp _ _ _ _ => false
  | .DictComp _ _ _ _ _ => false
  | _ => true
def notTup : Expr → Bool
  | .Tuple _ _ _ => false
  | _ => true
/-- y = [..]: the comprehension is stored within its own frame -/
def swB (sc : Scope) (y : Str) (py : Pos) : Expr → Option Bool
  | .ListComp _ _ scope pos => if decide (sc.names.lookup y = some .local) && (py.line == pos.line) && !(scope.names.any fun (n, k) => n == y && (k == .local || k == .cell)) then some true
      else if decide (sc.names.lookup y = some .cell) then some false else none
  | e => if notLc e then some false else none
theorem swaps_lc {value : Expr} {tg : Option Expr} {l : Nat} {env : PySem.Env} (h : notLc value = true) : swapsWith value tg l env = pure false := by
  cases value <;> first | rfl | (simp [notLc] at h)
theorem swaps_sub {value a i : Expr} {p : Pos} {l : Nat} {env : PySem.Env} : swapsWith value (some (.Subscript a i p)) l env = pure false := by
  cases value <;> rfl
theorem swaps_att {value a : Expr} {f : Str} {p : Pos} {l : Nat} {env : PySem.Env} : swapsWith value (some (.Attribute a f p)) l env = pure false := by
  cases value <;> rfl
def isLc : E → Bool
  | .lc _ _ _ _ _ => true
  | _ => false
section
variable (St : Stc)
mutual
def chkT (sc : Scope) (calm : Bool) : T → Stmt → Bool
  | .pass, s => (match s with
    | .Pass _ => true
    | .Expr (.Constant (.str _) _ _) _ => true
    | _ => false)
  | .frz _, _ => false
  | .bxs _, _ => false
  | .asg tg e, s => (match s with
    | .Assign [t] v pos => chkE St calm sc e v && (match tg, t with
      | .nm i, .Name y py => decide (St.N[i]? = some y) && loc sc y && (match swB sc y py v with
        | some true => calm && isLc e
        | some false => true
        | none => false)
      | .tup ts, t => calm && tgIsTup t && chkTg St sc (.tup ts) t && notLc v && notTup v
      | _, _ => false)
    | _ => false)
  | .par is es, s => (match is, es, s with
    | [i, j], [a, b], .Assign [.Tuple [.Name x px, .Name y py] _ _] (.Tuple [u, v] _ _) _ => calm && decide (i ≠ j) && decide (St.N[i]? = some x) && decide (St.N[j]? = some y) && decide (sc.names.lookup x = some .local) && decide (sc.names.lookup y = some .local) &&
        (py.line == px.line) && decide (x ≠ y) && notStar u && notStar v && !([u, v].all (foldedForSure 8)) && !([u, v].all (constantsAlone 8)) && chkE St calm sc a u && chkE St calm sc b v
    | _, _, _ => false)
  | .setix i ix e, s => (match s with
    | .Assign [.Subscript (.Name y _) x _] v _ => decide (St.N[i]? = some y) && vis sc y && okName y && notSlice x && notTup v && chkE St calm sc ix x && chkE St calm sc e v
    | _ => false)
  | .aug i o e, s => (match s with
    | .AugAssign (.Name y _) p v _ => decide (p = o) && (match o with | .Add => true | .Sub => true | .Mult => true | _ => false) && decide (St.N[i]? = some y) && loc sc y && chkE St calm sc e v
    | _ => false)
  | .app i e, s => (match s with
    | .Expr (.Call (.Attribute (.Name y _) m apos) [v] [] cpos) _ => decide (m = "append") && (apos.endLine == cpos.line) && notStar v && decide (St.N[i]? = some y) && vis sc y && okName y && chkE St calm sc e v
    | _ => false)
  | .ext i e, s => (match s with
    | .Expr (.Call (.Attribute (.Name y _) m apos) [v] [] cpos) _ => decide (m = "extend") && (apos.endLine == cpos.line) && notStar v && decide (St.N[i]? = some y) && vis sc y && okName y && chkE St calm sc e v
    | _ => false)
  | .fset c k a e, s => (match s with
    | .Assign [.Attribute o f _] v _ => notSup o && isFld St c k f && chkE St calm sc a o && chkE St calm sc e v
    | _ => false)
  | .rapp a e, s => (match s with
    | .Expr (.Call (.Attribute o m apos) [v] [] cpos) _ => decide (m = "append") && (apos.endLine == cpos.line) && notSup o && notStar v && chkE St calm sc a o && chkE St calm sc e v
    | _ => false)
  | .rext a e, s => (match s with
    | .Expr (.Call (.Attribute o m apos) [v] [] cpos) _ => decide (m = "extend") && (apos.endLine == cpos.line) && notSup o && notStar v && chkE St calm sc a o && chkE St calm sc e v
    | _ => false)
  | .rrem a e, s => (match s with
    | .Expr (.Call (.Attribute o m apos) [v] [] cpos) _ => decide (m = "remove") && (apos.endLine == cpos.line) && notSup o && notStar v && chkE St calm sc a o && chkE St calm sc e v
    | _ => false)
  | .rins a i e, s => (match s with
    | .Expr (.Call (.Attribute o m apos) [x, v] [] cpos) _ => decide (m = "insert") && (apos.endLine == cpos.line) && notSup o && notStar x && notStar v && chkE St calm sc a o && chkE St calm sc i x && chkE St calm sc e v
    | _ => false)
  | .rset a ix e, s => (match s with
    | .Assign [.Subscript o x _] v _ => notSlice x && notTup v && chkE St calm sc a o && chkE St calm sc ix x && chkE St calm sc e v
    | _ => false)
  | .pop j i, s => (match s with
    | .Assign [.Name x _] (.Call (.Attribute (.Name y _) m apos) [] [] cpos) _ => decide (m = "pop") && (apos.endLine == cpos.line) && decide (i ≠ j) && decide (St.N[j]? = some x) && loc sc x && decide (St.N[i]? = some y) && vis sc y && okName y
    | _ => false)
  | .exp e, s => (match s with
    | .Expr v _ => notLc v && chkE St calm sc e v
    | _ => false)
  | .ret e, s => (match s with
    | .Return (some v) _ => chkE St calm sc e v
    | _ => false)
  | .retN, s => (match s with
    | .Return none _ => true
    | _ => false)
  | .iff c a b, s => (match s with
    | .If t x y _ => testable c && chkE St calm sc c t && chkTs sc calm a x && chkTs sc calm b y
    | _ => false)
  | .whl c b, s => (match s with
    | .While t x [] _ => calm && testable c && chkE St calm sc c t && chkTs sc calm b x
    | _ => false)
  | .forr tg it b, s => (match s with
    | .For t x y [] _ => calm && chkTg St sc tg t && chkI St calm sc it t x && notSet x && chkTs sc calm b y
    | _ => false)
  | .brk, s => (match s with
    | .Break _ => true
    | _ => false)
  | .cnt, s => (match s with
    | .Continue _ => true
    | _ => false)
  | .rais c, s => (match s with
    | .Raise (some (.Call (.Name x _) [.Constant (.str _) _ _] [] _)) none _ => calm && glob sc x && okName x && decide ((c, x) ∈ St.exs)
    | _ => false)
  | .tr b hs, s => (match s with
    | .Try x h [] [] _ => calm && !hs.isEmpty && chkTs sc calm b x && chkHs sc hs h
    | _ => false)
def chkTs (sc : Scope) (calm : Bool) : List T → List Stmt → Bool
  | [], s => (match s with | [] => true | _ => false)
  | .frz _ :: ts, s => chkTs sc calm ts s
  | .bxs _ :: ts, s => chkTs sc calm ts s
  | t :: ts, s => (match s with
    | x :: xs => chkT sc calm t x && chkTs sc calm ts xs
    | [] => false)
def chkHs (sc : Scope) : List (List Nat × Option Nat × List T) → List ExceptHandler → Bool
  | [], h => (match h with | [] => true | _ => false)
  | (ks, o, b) :: r, h => (match h with
    | .ExceptHandler (some (.Name c _)) n (x :: xs) _ :: h' => (match ks with | [k] => decide ((k, c) ∈ St.exs) | _ => false) && glob sc c && okName c && (match o, n with
      | none, none => r.all fun h => h.2.1.isNone
      | some i, some y => decide (St.N[i]? = some y) && decide (sc.names.lookup y = some .local) && (match r, h' with | [], [] => true | _, _ => false)
      | _, _ => false) && chkTs sc false b (x :: xs) && chkHs sc r h'
    | _ => false)
end
end
/-- where a statement stands -/
structure GoodS (X : Cx) (St : Stc) (Z : Z0) (W : WX) (G : Env) (sub : Sub) (k : Nat) (calm : Bool) : Prop where
  g : Good X St Z W G sub k calm
  po : calm = true → PassesOwn (model X.prog X.w) X.A X.env X.xe
  st : X.stack = X.env :: X.outer
  fr : X.env.frame = some X.env.locals
  kd : X.env.scope.kind = .function
  fn1 : ∀ x, X.fn x = true
  exc : ∀ p ∈ St.exs, ∃ C, X.mg p.2 = some (.ref C) ∧ Z.cls p.1 = .ref C ∧ PySem.W.excIn X.K C [.type "ValueError", .type "Exception", .type "BaseException", .type "object"] "ValueError.__new__" = true ∧ PySem.W.keepIn X.K (.ref C) = true ∧
    PySem.W.subIn X.K (.ref C) (.type "BaseException") = some true ∧ PySem.W.typeIn X.K (.ref C) = some (.type "type")
  /-- what isinstance asks of an error's class -/
  exd : ∀ c k b, sub c k = some b → ∃ C, Z.cls c = .ref C ∧ ExcC X.K C
section
variable {St : Stc} {Z : Z0} {G : Env} {sub : Sub} {k : Nat} {fuel : Nat}
theorem ip_D {X : Cx} {W : WX} (o : Operator) (ho : (match o with | .Add => true | .Sub => true | .Mult => true | _ => false) = true) : PIp X o (fun x y H Q => ∃ F σ i j, x = .int i ∧ y = .int j ∧ Ok X.K F H ∧ PostE X.K Z W (opD o (.int i) (.int j)) F H σ Q) := by
  intro pins s σ H x y v u Q I rx ry h
  obtain ⟨F, σ', i, j, rfl, rfl, sf, p⟩ := h
  cases o <;> first | (cases ho; done) | skip
  · exact augR iop_add I rx ry ⟨i, j, rfl, rfl, PostE.val p sf repInt⟩
  · exact augR iop_sub I rx ry ⟨i, j, rfl, rfl, PostE.val p sf repInt⟩
  · obtain ⟨c, p⟩ := guardM_ok (P := fun m => PostE X.K Z W m F H σ' Q) (show PostE X.K Z W (guardM (mulB i j) (.ok (.val (.int (i * j))))) F H σ' Q from p) (fun z => z)
    have om : OpR X (inplaceOp .Mult) (rI (fun i j => mulB i j = true) fun i j => .int (i * j)) := opI fun _ _ _ _ _ _ _ hc q => imul_int q (mulB_ok hc)
    exact augR om I rx ry ⟨i, j, rfl, rfl, c, PostE.val p sf repInt⟩
theorem swapped2 {env : PySem.Env} {x y : Str} {px py pt pt2 : Pos} {kt k2 : Nat} {a b : Expr} (hk : env.scope.kind = .function) (hx : env.scope.names.lookup x = some .local) (hy : env.scope.names.lookup y = some .local) (hl : (py.line == px.line) = true) (hne : x ≠ y) (ha : notStar a = true) (hb : notStar b = true)
    (hf : [a, b].all (foldedForSure 8) = false) (hc : [a, b].all (constantsAlone 8) = false) : swappedStores [.Tuple [.Name x px, .Name y py] kt pt] (.Tuple [a, b] k2 pt2) env = pure (some [x, y]) := by
  have kx : env.kindOf x = some .local := hx
  have ky : env.kindOf y = some .local := hy
  have hbk : env.blockKind = .function := by unfold Env.blockKind; rw [hk]; rfl
  have hst : ([a, b].any fun | .Starred .. => true | _ => false) = false := by
    have h1 : ∀ e : Expr, notStar e = true → (match e with | .Starred .. => true | _ => false) = false := fun e h => by cases e <;> first | rfl | (simp [notStar] at h)
    simp only [List.any_cons, List.any_nil, Bool.or_false, Bool.or_eq_false_iff]
    exact ⟨h1 a ha, h1 b hb⟩
  have hne' : (y == x) = false := by simpa using fun e : y = x => hne e.symm
  unfold swappedStores
  simp only [hst, hbk, kx, ky, hl, hf, hc, List.length_cons, List.length_nil, List.filterMap_cons, List.filterMap_nil, List.head?_cons, Option.map_some, Option.getD_some, Expr.pos, beq_self_eq_true, Bool.and_self, if_true, List.eraseDups_cons, List.eraseDups_nil]
  have e3 : (0 + 1 + 1 != 0 + 1 + 1 || (List.filter (fun b => !b == x) [y]).eraseDups.length + 1 != 0 + 1 + 1) = false := by
    have : List.filter (fun b => !b == x) [y] = [y] := by simp [List.filter, hne']
    rw [this, List.eraseDups_cons]
    rfl
  rw [e3]
  refine (if_neg (by decide)).trans ((if_neg ?_).trans rfl)
  intro z
  obtain ⟨e, he, q⟩ := List.any_eq_true.mp z
  have hn : notStar e = true := by
    simp only [List.mem_cons, List.not_mem_nil, or_false] at he
    rcases he with rfl | rfl <;> assumption
  cases e <;> first | (cases q; done) | (simp [notStar] at hn)
end
end EV

set_option Elab.async false
set_option linter.all false
set_option autoImplicit false
set_option maxRecDepth 100000
set_option maxHeartbeats 16000000
/-! EwC1: statements are what the evaluator says. -/
namespace EV
open PySem PySem.Spec PyProof.Rows L2
section
variable {St : Stc} {Z : Z0} {G : Env} {sub : Sub} {k : Nat} {fuel : Nat}
theorem GoodS.hloc {X : Cx} {W : WX} {calm : Bool} (g : GoodS X St Z W G sub k calm) : ∀ x, loc X.env.scope x = true → L2.Loc X.env.scope x ∧ (X.fn x = true ∨ X.env.scope.names.lookup x = some .local) :=
  fun x h => ⟨loc_of h, .inl (g.fn1 x)⟩
/-! ### loops -/
/-- behind a turn -/
theorem PostF.turn {K : PySem.W.Frag} {W : WX} {b : EV.F} {k : List S → EV.F} {F : Fz} {D : Ends} {N : L2.St → Hp → Prop} (p : PostF K Z W (b.loop k) F D) (h : ∀ σ' H' F' s, Rel K Z F' s σ' H' → Le F F' → PostF K Z W (k s) F' D → N σ' H') : PostF K Z W b F { D with nx := N, ct := N, bk := D.nx } := by
  unfold PostF at p ⊢
  unfold EV.F.loop at p
  cases e : b F.st with
  | nx s st => rw [e] at p; exact fun σ' H' F' es r q => h σ' H' F' s r q (by subst es; exact PostF.at (z := fun _ => k s F'.st) (f := F) p q rfl)
  | ct s st => rw [e] at p; exact fun σ' H' F' es r q => h σ' H' F' s r q (by subst es; exact PostF.at (z := fun _ => k s F'.st) (f := F) p q rfl)
  | bk s st => rw [e] at p; exact p
  | rt r st => rw [e] at p; exact p
  | ex c s st => rw [e] at p; exact p
  | bad => rw [e] at p; exact p.elim
theorem while_snd {X : Cx} {W : WX} {c : List S → M Bool} {b : List S → EV.F} : ∀ D σ H, tF X.K Z W (whileN c b fuel) D σ H → tWhile (tB X.K Z W c) (tF X.K Z W b) D σ H := by
  intro D σ H h
  refine ⟨fun m σ H => tF X.K Z W (whileN c b m) D σ H, ⟨fuel, h⟩, fun m σ H h => ?_⟩
  obtain ⟨f, ss, rel, p⟩ := h
  cases m with
  | zero => exact (show False from p).elim
  | succ m =>
    refine ⟨f, ss, rel, ?_⟩
    unfold whileN at p
    refine (PostF.f rel p).mono fun t F1 H1 e1 x1 p1 => ?_
    have rel1 := rel.grow x1
    cases t with
    | false =>
      rw [if_neg Bool.false_ne_true] at p1
      exact p1.nx rel1
    | true =>
      rw [if_pos rfl] at p1
      exact ⟨fun σ H => tF X.K Z W (whileN c b m) D σ H, fun σ' H' q => ⟨m, Nat.lt_succ_self m, q⟩, F1, ss, rel1, p1.turn fun σ' H' F' s r q p2 => ⟨F', s, r, p2⟩⟩
theorem forL_gd {gd : Gd} {g : D → List S → M (List S)} {b : List S → EV.F} {xs : List D} {ss : List S} {K : PySem.W.Frag} {W : WX} {F : Fz} {D : Ends} (p : PostF K Z W (forL gd g b xs ss) F D) : gd.ok F.st := by
  by_cases h : gd.ok F.st
  · exact h
  · exfalso
    unfold PostF at p
    cases xs with
    | nil =>
      have e : forL gd g b [] ss F.st = .bad := by unfold forL; exact if_neg h
      rw [e] at p; exact p
    | cons x r =>
      have e : forL gd g b (x :: r) ss F.st = .bad := by unfold forL; exact if_neg h
      rw [e] at p; exact p
theorem forL_nil {gd : Gd} {g : D → List S → M (List S)} {b : List S → EV.F} {ss : List S} {K : PySem.W.Frag} {W : WX} {F : Fz} {D : Ends} (p : PostF K Z W (forL gd g b [] ss) F D) : PostF K Z W (EV.F.nx ss) F D := by
  have h := forL_gd p
  have e : forL gd g b [] ss F.st = EV.F.nx ss F.st := by unfold forL; exact if_pos h
  exact p.at (Le.refl _) e
theorem forL_cons {gd : Gd} {g : D → List S → M (List S)} {b : List S → EV.F} {x : D} {r : List D} {ss : List S} {K : PySem.W.Frag} {W : WX} {F : Fz} {D : Ends} (p : PostF K Z W (forL gd g b (x :: r) ss) F D) : PostF K Z W ((g x ss).f ss fun s1 => (b s1).loop (forL gd g b r)) F D := by
  have h := forL_gd p
  have e : forL gd g b (x :: r) ss F.st = ((g x ss).f ss fun s1 => (b s1).loop (forL gd g b r)) F.st := by
    conv => lhs; unfold forL
    exact if_pos h
  exact p.at (Le.refl _) e
theorem for_snd {X : Cx} {W : WX} {tg : Tg} {fi : List S → M Its} {b : List S → EV.F} : ∀ D σ H, tF X.K Z W (fun ss => (fi ss).f ss fun its => if its.fx then forL its.gd (asg tg) b its.ds ss else .bad) D σ H →
    tFor (tI X.K Z W fi) (gT X.K Z tg) (tF X.K Z W b) D σ H := by
  intro D σ H h
  obtain ⟨f, ss, rel, p⟩ := h
  refine ⟨f, ss, rel, (PostF.f rel p).mono fun its F1 H1 e1 x1 p1 J wk0 wk1 => ?_⟩
  cases hfx : its.fx with
  | false => rw [hfx, if_neg Bool.false_ne_true] at p1; exact (show False from p1).elim
  | true =>
    rw [hfx, if_pos rfl] at p1
    have wk := wk1 hfx
    let P : Nat → L2.St → Hp → Prop := fun i σ H => ∃ F2 s2, Rel X.K Z F2 s2 σ H ∧ Le F1 F2 ∧ PostF X.K Z W (forL its.gd (asg tg) b (its.ds.drop i) s2) F2 D
    refine ⟨fun i m σ H => m = its.ds.length - i ∧ i ≤ its.ds.length ∧ P i σ H, ⟨its.ds.length, by simp, Nat.zero_le _, F1, ss, rel.grow x1, Le.refl _, by simpa using p1⟩, ?_⟩
    rintro i m σ2 H2 ⟨rfl, hi, F2, s2, r2, sf, p2⟩
    obtain ⟨w1, w2, w3⟩ := wk i F2 H2 r2.ok ⟨sf, forL_gd p2⟩
    by_cases hlt : i < its.ds.length
    · refine .inr ⟨w1 hlt, P (i + 1), fun σ' H' p' => ⟨its.ds.length - (i + 1), by omega, rfl, hlt, p'⟩, fun v H3 y => ?_⟩
      obtain ⟨d, F4, hd, hst, x4, rp⟩ := w3 hlt v H3 y
      have hdrop : its.ds.drop i = d :: its.ds.drop (i + 1) := by
        rw [List.drop_eq_getElem_cons hlt]
        rw [List.getElem?_eq_getElem hlt] at hd
        cases hd; rfl
      rw [hdrop] at p2
      have p3 := (forL_cons p2).grow x4.le hst
      have r4 := r2.grow x4
      refine ⟨F4, s2, d, r4, rp, ?_⟩
      have p4 := PostF.f r4 p3
      unfold PostM at p4 ⊢
      cases ea : asg tg d s2 F4.st with
      | ok s3 st =>
        rw [ea] at p4
        intro F5 H5 hs5 x5 σ3 r3 _
        exact ⟨F5, s3, r3, (p4 F5 H5 hs5 x5).turn fun σ' H' F' s r q p6 => ⟨F', s, r, ((sf.trans x4.le).trans x5.le).trans q, p6⟩⟩
      | ex c st => exact (asgs_len.asg_noex ea).elim
      | bad => rw [ea] at p4; exact p4
    · have e : i = its.ds.length := by omega
      subst e
      rw [List.drop_length] at p2
      exact .inl ⟨w2 rfl, (forL_nil p2).nx r2⟩
/-! ### simple statements -/
theorem asg_snd {X : Cx} {W : WX} {i : Nat} {m : List S → M R} : ∀ D σ H, tF X.K Z W (fun ss => (m ss).f ss fun r => putR i r ss) D σ H → tAsg (tE X.K Z W m) (gName i) D σ H := by
  intro D σ H h
  obtain ⟨f, ss, rel, p⟩ := h
  refine ⟨f, ss, rel, (PostF.f rel p).toE fun r F1 H1 v e x p1 q => ?_⟩
  exact putR_ok (rel.grow x) (fun a => rel.ext.free) q (fun j a ha xs hx => own_there rel j a ha xs hx) p1
theorem PostF.nxM {K : PySem.W.Frag} {W : WX} {α : Type} {m : M α} {ss : List S} {g : α → EV.F} {F : Fz} {H : Hp} {σ : L2.St} {D : Ends} (rel : Rel K Z F ss σ H) (p : PostF K Z W (m.f ss g) F D) : PostM K Z W m F H σ fun a F1 H1 => PostF K Z W (g a) F1 D := PostF.f rel p
theorem fixF {K : PySem.W.Frag} {W : WX} {r : R} {ss : List S} {g : EV.D → EV.F} {F F0 : Fz} {H H0 : Hp} {v : V} {D : Ends} (x : Ext K F0 H0 F H) (rv : RepR K H0 F H r v) (p : PostF K Z W (r.fix.f ss g) F D) : ∃ d F2, F2.st = F.st ∧ Ext K F0 H0 F2 H ∧ Rep K F2 d v ∧ Le F F2 ∧ PostF K Z W (g d) F2 D := by
  have go : ∀ d, r.fix F.st = .ok d F.st → ∃ d F2, F2.st = F.st ∧ Ext K F0 H0 F2 H ∧ Rep K F2 d v ∧ Le F F2 ∧ PostF K Z W (g d) F2 D := fun d e => by
    obtain ⟨F2, s2, x2, r2, l2⟩ := RepR.fixE x rv e
    exact ⟨d, F2, s2, x2, r2, l2, p.at l2 (by unfold M.f; rw [e, s2])⟩
  cases r with
  | val d => exact go d rfl
  | own xs => exact go _ rfl
  | bor xs => exact (show False from p).elim
theorem asgT_snd {X : Cx} {W : WX} {ts : List Tg} {m : List S → M R} : ∀ D σ H, tF X.K Z W (fun ss => (m ss).f ss fun r => asgR (.tup ts) r ss) D σ H → tAsg (tE X.K Z W m) (gT X.K Z (.tup ts)) D σ H := by
  intro D σ H h
  obtain ⟨f, ss, rel, p⟩ := h
  refine ⟨f, ss, rel, (PostF.f rel p).toE fun r F1 H1 v e x p1 q => ?_⟩
  obtain ⟨d, F2, s2, x2, r2, l2, p2⟩ := fixF x q (show PostF X.K Z W (r.fix.f ss fun d => (asg (.tup ts) d ss).f ss EV.F.nx) F1 D from p1)
  have rel2 := rel.grow x2
  refine ⟨F2, ss, d, rel2, r2, ?_⟩
  have p3 := PostF.f rel2 p2
  unfold PostM at p3 ⊢
  cases ea : asg (.tup ts) d ss F2.st with
  | ok s3 st =>
    rw [ea] at p3
    exact fun F5 H5 hs5 x5 σ3 r3 _ => (p3 F5 H5 hs5 x5).nx r3
  | ex c st => exact (asgs_len.asg_noex ea).elim
  | bad => rw [ea] at p3; exact p3
theorem par_snd {X : Cx} {W : WX} {i j : Nat} (hij : i ≠ j) {m : List S → M (List D)} : ∀ D σ H, tF X.K Z W (fun ss => (m ss).f ss fun ds => .ofO (setAll [i, j] ds ss)) D σ H → tPar i j (tDs X.K Z W m) D σ H := by
  intro D σ H h
  obtain ⟨f, ss, rel, p⟩ := h
  refine ⟨f, ss, rel, (PostF.f rel p).mono fun ds F1 H1 e x p1 vs rs => ?_⟩
  match ds, rs, p1 with
  | [], rs, p => exact (show False from p).elim
  | [_], rs, p =>
    exfalso
    unfold setAll at p
    split at p
    · unfold setAll at p; exact (show False from p).elim
    · exact (show False from p).elim
  | [d1, d2], rs, p =>
    unfold Reps at rs
    obtain ⟨v, r, rfl, r1, rs⟩ := rs
    unfold Reps at rs
    obtain ⟨w, r', rfl, r2, rs⟩ := rs
    unfold Reps at rs
    subst rs
    refine ⟨v, w, rfl, ?_⟩
    unfold setAll at p
    by_cases h1 : i < ss.length
    · rw [if_pos h1] at p
      unfold setAll at p
      by_cases h2 : j < ss.length
      · rw [if_pos h2] at p
        unfold setAll at p
        simp only [Option.map_some, F.ofO] at p
        have R1 := ((rel.grow x).set (i := j) r2).set (i := i) r1
        have e1 : (σ.set j (some w)).set i (some v) = (σ.set i (some v)).set j (some w) := List.set_comm _ _ (Ne.symm hij)
        rw [e1] at R1
        exact p.nx R1
      · rw [if_neg h2] at p; exact (show False from p).elim
    · rw [if_neg h1] at p; exact (show False from p).elim
  | _ :: _ :: _ :: _, rs, p =>
    exfalso
    unfold setAll at p
    by_cases h1 : i < ss.length
    · rw [if_pos h1] at p
      unfold setAll at p
      by_cases h2 : j < ss.length
      · rw [if_pos h2] at p
        unfold setAll at p; exact (show False from p)
      · rw [if_neg h2] at p; exact (show False from p)
    · rw [if_neg h1] at p; exact (show False from p)
theorem intF {K : PySem.W.Frag} {W : WX} {r : R} {ss : List S} {g : Int → EV.F} {F : Fz} {H H0 : Hp} {v : V} {D : Ends} (rv : RepR K H0 F H r v) (p : PostF K Z W ((asInt r).f ss g) F D) : ∃ j, v = .int j ∧ r = .val (.int j) ∧ PostF K Z W (g j) F D := by
  cases r with
  | val d =>
    cases d with
    | int j =>
      have rv' : Rep K F (.int j) v := rv
      unfold Rep at rv'
      exact ⟨j, rv', rfl, p⟩
    | _ => exact (show False from p).elim
  | _ => exact (show False from p).elim
theorem ownF {K : PySem.W.Frag} {W : WX} {o : Option S} {g : List EV.D → EV.F} {F : Fz} {D : Ends} (p : PostF K Z W (ownS o g) F D) : ∃ xs, o = some (.own xs) ∧ PostF K Z W (g xs) F D := by
  cases o with
  | none => exact (show False from p).elim
  | some s => cases s with
    | own xs => exact ⟨xs, rfl, p⟩
    | _ => exact (show False from p).elim
theorem setix_snd {X : Cx} {W : WX} {i : Nat} {m n : List S → M R} : ∀ D σ H, tF X.K Z W (fun ss => (m ss).f ss fun r => (r.fix).f ss fun d => ownS ss[i]? fun xs => (n ss).f ss fun x => (asInt x).f ss fun j => setN i xs d (ixN xs.length j) ss) D σ H → tAsg (tE X.K Z W m) (gSub (tVar i) (tE X.K Z W n) rSetL) D σ H := by
  intro D σ H h
  obtain ⟨f, ss, rel, p⟩ := h
  refine ⟨f, ss, rel, (PostF.f rel p).toE fun r F1 H1 v e x p1 q => ?_⟩
  obtain ⟨d, F2, s2, x2, r2, l2, p2⟩ := fixF x q p1
  obtain ⟨xs, hs, p3⟩ := ownF p2
  have rel2 := rel.grow x2
  obtain ⟨a, vs, h1, h2, h3, h4, h5⟩ := rel2.own i xs hs
  refine ⟨.ref a, h1, F2, ss, rel2, (PostF.f rel2 p3).toE fun y F3 H3 w e3 x3 p4 q3 => ?_⟩
  obtain ⟨jj, rfl, rfl, p5⟩ := intF q3 p4
  cases hn : ixN xs.length jj with
  | none => rw [hn] at p5; exact (show False from p5).elim
  | some nn =>
    rw [hn] at p5
    obtain ⟨b, vs3, h1', h2', h3', h4', h5'⟩ := (rel2.grow x3).own i xs hs
    rw [h1] at h1'; cases h1'
    exact ⟨a, vs3, jj, nn, rfl, rfl, h2', by rw [← h5'.length, ← ixN_eq]; exact hn, PostF.nx (show PostF X.K Z W (EV.F.nx (ss.set i (.own (xs.set nn d)))) F3 D from p5) ((rel2.grow x3).write hs h1 h2' h3' h4' (Reps.set nn h5' (Rep.mono x3.le _ _ r2)))⟩
theorem aug_snd {X : Cx} {W : WX} {i : Nat} {o : Operator} {m : List S → M R} : ∀ D σ H, tF X.K Z W (fun ss => intS ss[i]? fun x => (m ss).f ss fun r => intR r fun y => (opD o (.int x) (.int y)).f ss fun z => putR i z ss) D σ H → tAug i (tE X.K Z W m) (fun x y H Q => ∃ F σ i j, x = .int i ∧ y = .int j ∧ Ok X.K F H ∧ PostE X.K Z W (opD o (.int i) (.int j)) F H σ Q) D σ H := by
  intro D σ H h
  obtain ⟨f, ss, rel, p⟩ := h
  dsimp only at p
  cases hs : ss[i]? with
  | none => rw [hs] at p; exact (show False from p).elim
  | some s =>
  rw [hs] at p
  cases s with
  | val d =>
    cases d with
    | int x =>
      obtain ⟨v, h1, h2⟩ := rel.val i _ hs
      unfold Rep at h2
      subst h2
      refine ⟨_, h1, f, ss, rel, (PostF.f (ss := ss) (g := fun r => intR r fun y => (opD o (.int x) (.int y)).f ss fun z => putR i z ss) rel p).toE fun r F1 H1 w e x1 p1 q => ?_⟩
      cases r with
      | val d =>
        cases d with
        | int y =>
          have q' : Rep X.K F1 (.int y) w := q
          unfold Rep at q'
          subst q'
          have rel1 := rel.grow x1
          refine ⟨F1, σ, x, y, rfl, rfl, x1.ok, (PostF.f (ss := ss) (g := fun z => putR i z ss) rel1 p1).toE fun z F2 H2 u e2 x2 p2 q2 => ?_⟩
          exact putR_ok (rel1.grow x2) (fun a => rel1.ext.free) q2 (fun j a ha xs hx => own_there rel1 j a ha xs hx) p2
        | _ => exact (show False from p1).elim
      | _ => exact (show False from p1).elim
    | _ => exact (show False from p).elim
  | _ => exact (show False from p).elim
theorem app_snd {X : Cx} {W : WX} {i : Nat} {m : List S → M R} : ∀ D σ H, tF X.K Z W (fun ss => ownS ss[i]? fun xs => (m ss).f ss fun r => (r.fix).f ss fun d => if xs.length < line then .nx (ss.set i (.own (xs ++ [d]))) else .bad) D σ H → tDrop (tBM X.K "list" rAppend (tVar i) (tCons (tE X.K Z W m) tNil)) D σ H := by
  intro D σ H h
  obtain ⟨f, ss, rel, p⟩ := h
  obtain ⟨xs, hs, p⟩ := ownF p
  obtain ⟨a, vs, h1, h2, h3, h4, h5⟩ := rel.own i xs hs
  refine ⟨.ref a, h1, .inl ⟨rfl, vs, SqL.of h2⟩, f, ss, rel, (PostF.f rel p).toE fun r F1 H1 w e x p1 q => ?_⟩
  obtain ⟨d, F2, s2, x2, r2, l2, p2⟩ := fixF x q p1
  by_cases hl : xs.length < line
  · rw [if_pos hl] at p2
    have rel2 := rel.grow x2
    obtain ⟨b, vs2, h1', h2', h3', h4', h5'⟩ := rel2.own i xs hs
    rw [h1] at h1'; cases h1'
    exact ⟨a, vs2, w, rfl, rfl, h2', by rw [← h5'.length, ← line_eq]; exact hl, p2.nx (rel2.write hs h1 h2' h3' h4' (Reps.append h5' (Reps.cons r2 Reps.nil)))⟩
  · rw [if_neg hl] at p2; exact (show False from p2).elim
theorem listOf_view {K : PySem.W.Frag} {F : Fz} {H : Hp} {d : EV.D} {v : V} {ys : List EV.D} (e : listOf d = some ys) (h : View K F H d v) : ∃ b vs, v = .ref b ∧ H b = some (.lst vs) ∧ Reps K F ys vs := by
  cases d with
  | lst xs => cases e; exact h
  | _ => cases e
theorem ext_snd {X : Cx} {W : WX} {i : Nat} {m : List S → M R} : ∀ D σ H, tF X.K Z W (fun ss => ownS ss[i]? fun xs => (m ss).f ss fun r => match listOf r.view with
    | some ys => if xs.length + ys.length ≤ line then .nx (ss.set i (.own (xs ++ ys))) else .bad
    | none => .bad) D σ H → tDrop (tBM X.K "list" rExtend (tVar i) (tCons (tE X.K Z W m) tNil)) D σ H := by
  intro D σ H h
  obtain ⟨f, ss, rel, p⟩ := h
  obtain ⟨xs, hs, p⟩ := ownF p
  obtain ⟨a, vs, h1, h2, h3, h4, h5⟩ := rel.own i xs hs
  refine ⟨.ref a, h1, .inl ⟨rfl, vs, SqL.of h2⟩, f, ss, rel, (PostF.f rel p).toE fun r F1 H1 w e x p1 q => ?_⟩
  cases el : listOf r.view with
  | none => rw [el] at p1; exact (show False from p1).elim
  | some ys =>
    rw [el] at p1
    dsimp only at p1
    by_cases hl : xs.length + ys.length ≤ line
    · rw [if_pos hl] at p1
      have rel2 := rel.grow x
      obtain ⟨b, ws, rfl, hb, rb⟩ := listOf_view el (RepR.view x.ok q)
      obtain ⟨a', vs2, h1', h2', h3', h4', h5'⟩ := rel2.own i xs hs
      rw [h1] at h1'; cases h1'
      exact ⟨a, b, vs2, ws, rfl, rfl, h2', hb, by rw [← h5'.length, ← rb.length, ← line_eq]; exact hl, p1.nx (rel2.write hs h1 h2' h3' h4' (Reps.append h5' rb))⟩
    · rw [if_neg hl] at p1; exact (show False from p1).elim
theorem pop_snd {X : Cx} {W : WX} {i j : Nat} (hij : i ≠ j) : ∀ D σ H, tF X.K Z W (fun ss => ownS ss[i]? fun xs => popS j i xs ss) D σ H → tAsg (tBM0 X.K "list" rPop (tVar i)) (gName j) D σ H := by
  intro D σ H h
  obtain ⟨f, ss, rel, p⟩ := h
  obtain ⟨xs, hs, p⟩ := ownF p
  obtain ⟨a, vs, h1, h2, h3, h4, h5⟩ := rel.own i xs hs
  unfold popS at p
  cases e : xs[xs.length - 1]? with
  | none => rw [e] at p; exact (show False from p).elim
  | some d =>
    rw [e] at p
    dsimp only at p
    by_cases hl : j < ss.length
    · rw [if_pos hl] at p
      obtain ⟨v, q1, q2⟩ := h5.get e
      refine ⟨.ref a, h1, .inl ⟨rfl, vs, SqL.of h2⟩, a, vs, v, rfl, rfl, h2, by rw [← h5.length]; exact q1, ?_⟩
      have w := rel.write hs h1 h2 h3 h4 h5.dropLast
      exact p.nx (w.set q2)
    · rw [if_neg hl] at p; exact (show False from p).elim
theorem exp_snd {X : Cx} {W : WX} {m : List S → M R} : ∀ D σ H, tF X.K Z W (fun ss => (m ss).f ss fun _ => .nx ss) D σ H → tDrop (tE X.K Z W m) D σ H := by
  intro D σ H h
  obtain ⟨f, ss, rel, p⟩ := h
  exact ⟨f, ss, rel, (PostF.f rel p).toE fun r F1 H1 w e x p1 q => p1.nx (rel.grow x)⟩
theorem iff_snd {X : Cx} {W : WX} {c : List S → M Bool} {a b : List S → EV.F} : ∀ D σ H, tF X.K Z W (fun ss => (c ss).f ss fun t => if t then a ss else b ss) D σ H → tIfS (tB X.K Z W c) (tF X.K Z W a) (tF X.K Z W b) D σ H := by
  intro D σ H h
  obtain ⟨f, ss, rel, p⟩ := h
  refine ⟨f, ss, rel, (PostF.f rel p).mono fun t F1 H1 e x p1 => ?_⟩
  cases t with
  | true => rw [if_pos rfl] at p1; exact ⟨F1, ss, rel.grow x, p1⟩
  | false => rw [if_neg Bool.false_ne_true] at p1; exact ⟨F1, ss, rel.grow x, p1⟩
theorem retE_snd {X : Cx} {W : WX} {m : List S → M R} : ∀ D σ H, tF X.K Z W (fun ss => (m ss).f ss rtR) D σ H → tRet (tE X.K Z W m) D σ H := by
  intro D σ H h
  obtain ⟨f, ss, rel, p⟩ := h
  refine ⟨f, ss, rel, (PostF.f rel p).toE fun r F1 H1 w e x p1 q => ?_⟩
  have x0 := rel.ext.trans x
  have q0 := RepR.back (fun a => rel.ext.free) q
  cases r with
  | val d => exact p1 w H1 ⟨F1, rfl, x0, q0, trivial⟩
  | own xs => exact p1 w H1 ⟨F1, rfl, x0, q0, trivial⟩
  | bor xs => exact (show False from p1).elim
theorem retV_snd {X : Cx} {W : WX} {i : Nat} : ∀ D σ H, tF X.K Z W (fun ss => retS ss[i]?) D σ H → tRet (tVar i) D σ H := by
  intro D σ H h
  obtain ⟨f, ss, rel, p⟩ := h
  dsimp only at p
  cases hd : ss[i]? with
  | none => rw [hd] at p; exact (show False from p).elim
  | some s =>
    rw [hd] at p
    cases s with
    | val d =>
      obtain ⟨v, h1, h2⟩ := rel.val i d hd
      exact ⟨v, h1, p v H ⟨f, rfl, rel.ext, h2, trivial⟩⟩
    | own xs =>
      obtain ⟨a, vs, h1, h2, h3, h4, h5⟩ := rel.own i xs hd
      exact ⟨.ref a, h1, p (.ref a) H ⟨f, rfl, rel.ext, ⟨a, vs, rfl, h2, h3, h4, h5⟩, trivial⟩⟩
    | _ => exact (show False from p).elim
/-! ### the store -/
/-- what is changed through an expression -/
theorem updL_okR {K : PySem.W.Frag} {W : WX} {F : Fz} {H H0 : Hp} {σ : L2.St} {Q : Unit → Fz → Hp → Prop} {r : R} {h : List EV.D → Option (List EV.D)} {x : V} (ok : Ok K F H) (rx : RepR K H0 F H r x) (p : PostM K Z W (updL r.view h) F H σ Q) :
    ∃ a vs xs ys, x = .ref a ∧ H a = some (.lst vs) ∧ Reps K F xs vs ∧ h xs = some ys ∧ ∀ ws, Reps K F ys ws → ∃ F', Ext K F H F' (upd H a (.lst ws)) ∧ Q () F' (upd H a (.lst ws)) := by
  cases e : r.view with
  | obj n => rw [e] at p; exact updL_ok ok (view_rep e rx) p
  | _ => rw [e] at p; exact (show False from p).elim
theorem fset_snd {X : Cx} {W : WX} {c k : Nat} {f : Str} (hcs : ClsOk X.K Z.F0.cl St.cs) (hf : isFld St c k f = true) {m n : List S → M R} : ∀ D σ H, tF X.K Z W (fun ss => (m ss).f ss fun r => (r.fix).f ss fun d => (n ss).f ss fun o => (setFld o.view c k d).f ss fun _ => .nx ss) D σ H → sFld X.K (tE X.K Z W n) (tE X.K Z W m) f D σ H := by
  intro D σ H h
  obtain ⟨F, ss, rel, p⟩ := h
  refine ⟨F, ss, rel, (PostF.f rel p).toE fun r F1 H1 v e x p1 q => ?_⟩
  obtain ⟨d, F2, s2, x2, r2, l2, p2⟩ := fixF x q p1
  have rel2 := rel.grow x2
  refine ⟨F2, ss, rel2, (PostF.f rel2 p2).toE fun o F3 H3 w e3 x3 p3 q3 => ?_⟩
  have rel3 := rel2.grow x3
  have p4 := PostF.f rel3 p3
  cases e : o.view with
  | obj n =>
    rw [e] at p4
    obtain ⟨a, C, ns, dx, kvs, rfl, z1, z2, z3, z4⟩ := setFld_ok x3.ok (view_rep e q3) (Rep.mono x3.le _ _ r2) p4
    rw [rel3.cl] at z1
    obtain ⟨y1, y2, y3⟩ := isFld_ok hcs hf z1
    obtain ⟨F', x', p'⟩ := z4 f y1
    exact ⟨a, C, dx, kvs, rfl, z2, y2, y3, z3, p'.nx (rel3.grow x')⟩
  | _ => rw [e] at p4; exact (show False from p4).elim
theorem PostF.pure {K : PySem.W.Frag} {W : WX} {α : Type} {m : M α} {ss : List S} {g : α → EV.F} {F : Fz} {D : Ends} {a : α} (e : m F.st = .ok a F.st) (p : PostF K Z W (m.f ss g) F D) : PostF K Z W (g a) F D := p.at (Le.refl _) (by unfold M.f; rw [e])
theorem PostF.isBad {K : PySem.W.Frag} {W : WX} {α : Type} {m : M α} {ss : List S} {g : α → EV.F} {F : Fz} {D : Ends} (e : m F.st = .bad) (p : PostF K Z W (m.f ss g) F D) : False := by
  have e2 : (m.f ss g) F.st = .bad := by unfold M.f; rw [e]
  unfold PostF at p; rw [e2] at p; exact p
/-- the receiver is a list of the store -/
theorem isLstF {K : PySem.W.Frag} {W : WX} {r : R} {ss : List S} {g : Unit → EV.F} {F : Fz} {H H0 : Hp} {v : V} {D : Ends} (ok : Ok K F H) (rv : RepR K H0 F H r v) (p : PostF K Z W ((isLst r.view).f ss g) F D) : tyV K "list" v H ∧ (∃ n, r.view = .obj n) ∧ PostF K Z W (g ()) F D := by
  rcases isLst_inv (d := r.view) (st := F.st) with e | ⟨n, xs, e1, e2, e⟩
  · exact (p.isBad e).elim
  · obtain ⟨a, vs, rfl, ha, h3, h4⟩ := ok.list e2 (view_rep e1 rv)
    exact ⟨.inl ⟨rfl, vs, SqL.of h3⟩, ⟨n, e1⟩, p.pure e⟩
theorem rapp_snd {X : Cx} {W : WX} {n m : List S → M R} : ∀ D σ H, tF X.K Z W (fun ss => (n ss).f ss fun o => (isLst o.view).f ss fun _ => (m ss).f ss fun r => (r.fix).f ss fun d => (updL o.view fun xs => if xs.length < line then some (xs ++ [d]) else none).f ss fun _ => .nx ss) D σ H → tDrop (tBM X.K "list" rAppend (tE X.K Z W n) (tCons (tE X.K Z W m) tNil)) D σ H := by
  intro D σ H h
  obtain ⟨F, ss, rel, p⟩ := h
  refine ⟨F, ss, rel, (PostF.f rel p).toE fun o F1 H1 x e1 x1 p1 q1 => ?_⟩
  obtain ⟨t1, ⟨n, en⟩, p1⟩ := isLstF x1.ok q1 p1
  have rel1 := rel.grow x1
  refine ⟨t1, F1, ss, rel1, (PostF.f rel1 p1).toE fun r F2 H2 w e2 x2 p2 q2 => ?_⟩
  obtain ⟨d, F3, s3, x3, r3, l3, p3⟩ := fixF x2 q2 p2
  have rel3 := rel1.grow x3
  rw [en] at p3
  obtain ⟨a, vs, xs, ys, rfl, h1, h2, h3, h4⟩ := updL_ok x3.ok (Rep.mono x3.le _ _ (view_rep en q1)) (PostF.f rel3 p3)
  by_cases hl : xs.length < line
  · rw [if_pos hl] at h3
    cases h3
    obtain ⟨F4, x4, p4⟩ := h4 (vs ++ [w]) (Reps.append h2 (Reps.cons r3 Reps.nil))
    exact ⟨a, vs, w, rfl, rfl, h1, by rw [← h2.length, ← line_eq]; exact hl, p4.nx (rel3.grow x4)⟩
  · rw [if_neg hl] at h3; cases h3
theorem rext_snd {X : Cx} {W : WX} {n m : List S → M R} : ∀ D σ H, tF X.K Z W (fun ss => (n ss).f ss fun o => (isLst o.view).f ss fun _ => (m ss).f ss fun r => (updL o.view fun xs => match listOf r.view with
    | some ys => if xs.length + ys.length ≤ line then some (xs ++ ys) else none
    | none => none).f ss fun _ => .nx ss) D σ H → tDrop (tBM X.K "list" rExtend (tE X.K Z W n) (tCons (tE X.K Z W m) tNil)) D σ H := by
  intro D σ H h
  obtain ⟨F, ss, rel, p⟩ := h
  refine ⟨F, ss, rel, (PostF.f rel p).toE fun o F1 H1 x e1 x1 p1 q1 => ?_⟩
  obtain ⟨t1, ⟨n, en⟩, p1⟩ := isLstF x1.ok q1 p1
  have rel1 := rel.grow x1
  refine ⟨t1, F1, ss, rel1, (PostF.f rel1 p1).toE fun r F2 H2 w e2 x2 p2 q2 => ?_⟩
  have rel2 := rel1.grow x2
  rw [en] at p2
  obtain ⟨a, vs, xs, ys, rfl, h1, h2, h3, h4⟩ := updL_ok x2.ok (Rep.mono x2.le _ _ (view_rep en q1)) (PostF.f rel2 p2)
  cases el : listOf r.view with
  | none => rw [el] at h3; cases h3
  | some zs =>
    rw [el] at h3
    dsimp only at h3
    obtain ⟨b, ws, rfl, hb, rb⟩ := listOf_view el (RepR.view x2.ok q2)
    by_cases hl : xs.length + zs.length ≤ line
    · rw [if_pos hl] at h3
      cases h3
      obtain ⟨F4, x4, p4⟩ := h4 (vs ++ ws) (Reps.append h2 rb)
      exact ⟨a, b, vs, ws, rfl, rfl, h1, hb, by rw [← h2.length, ← rb.length, ← line_eq]; exact hl, p4.nx (rel2.grow x4)⟩
    · rw [if_neg hl] at h3; cases h3
theorem eraseIdx_map {α β : Type} (f : α → β) : ∀ (xs : List α) (n : Nat), (xs.map f).eraseIdx n = (xs.eraseIdx n).map f
  | [], _ => rfl
  | x :: xs, 0 => rfl
  | x :: xs, n + 1 => by simp [eraseIdx_map f xs n]
theorem rrem_snd {X : Cx} {W : WX} {n m : List S → M R} : ∀ D σ H, tF X.K Z W (fun ss => (n ss).f ss fun o => (isLst o.view).f ss fun _ => (m ss).f ss fun r => (updL o.view (remL r.view)).f ss fun _ => .nx ss) D σ H → tDrop (tBM X.K "list" rRemI (tE X.K Z W n) (tCons (tE X.K Z W m) tNil)) D σ H := by
  intro D σ H h
  obtain ⟨F, ss, rel, p⟩ := h
  refine ⟨F, ss, rel, (PostF.f rel p).toE fun o F1 H1 x e1 x1 p1 q1 => ?_⟩
  obtain ⟨t1, ⟨n, en⟩, p1⟩ := isLstF x1.ok q1 p1
  have rel1 := rel.grow x1
  refine ⟨t1, F1, ss, rel1, (PostF.f rel1 p1).toE fun r F2 H2 w e2 x2 p2 q2 => ?_⟩
  have rel2 := rel1.grow x2
  rw [en] at p2
  obtain ⟨a, vs, xs, ys, rfl, h1, h2, h3, h4⟩ := updL_ok x2.ok (Rep.mono x2.le _ _ (view_rep en q1)) (PostF.f rel2 p2)
  cases ek : r.view with
  | int k =>
    have rv := RepR.view x2.ok q2
    rw [ek] at rv
    cases rv.int
    unfold remL at h3
    rw [ek] at h3
    cases ei : intsOf xs with
    | none => rw [ei] at h3; cases h3
    | some ns =>
      rw [ei] at h3
      dsimp only at h3
      by_cases hk : k ∈ ns
      · rw [if_pos hk] at h3
        cases h3
        have ev := intsOf_map h2 ei
        subst ev
        have hlt : ns.findIdx (· == k) < ns.length := List.findIdx_lt_length_of_exists ⟨k, hk, by simp⟩
        obtain ⟨F4, x4, p4⟩ := h4 ((ns.map V.int).eraseIdx (ns.findIdx (· == k))) (Reps.eraseIdx _ h2)
        refine ⟨a, ns, k, ns.findIdx (· == k), rfl, rfl, h1, ?_, fun j hj => ?_, ?_⟩
        · rw [List.getElem?_eq_getElem hlt]
          have := List.findIdx_getElem (w := hlt)
          simpa using this
        · intro z
          obtain ⟨hl, e⟩ := List.getElem?_eq_some_iff.mp z
          have := List.not_of_lt_findIdx hj
          rw [e] at this
          simp at this
        · rw [← eraseIdx_map]
          exact p4.nx (rel2.grow x4)
      · rw [if_neg hk] at h3; cases h3
  | _ => unfold remL at h3; rw [ek] at h3; cases h3
abbrev rIns : V → List V → Hp → VK → Prop := fun x vs H Q => ∃ (l : Addr) (xs : List V) (i : Int) (y : V), x = .ref l ∧ vs = [.int i, y] ∧ H l = some (.lst xs) ∧ xs.length < sizeLine ∧ 0 ≤ i ∧ i < 2 ^ 63 ∧ Q .non (upd H l (.lst (xs.take i.toNat ++ [y] ++ xs.drop i.toNat)))
theorem rins_snd {X : Cx} {W : WX} {n i m : List S → M R} : ∀ D σ H, tF X.K Z W (fun ss => (n ss).f ss fun o => (isLst o.view).f ss fun _ => (i ss).f ss fun r => (asInt r).f ss fun j => (m ss).f ss fun r => (r.fix).f ss fun d => (updL o.view fun xs => if 0 ≤ j ∧ j < 4611686018427387904 ∧ xs.length < line then some (xs.take j.toNat ++ [d] ++ xs.drop j.toNat) else none).f ss fun _ => .nx ss) D σ H →
    tDrop (tBM X.K "list" rIns (tE X.K Z W n) (tCons (tE X.K Z W i) (tCons (tE X.K Z W m) tNil))) D σ H := by
  intro D σ H h
  obtain ⟨F, ss, rel, p⟩ := h
  refine ⟨F, ss, rel, (PostF.f rel p).toE fun o F1 H1 x e1 x1 p1 q1 => ?_⟩
  obtain ⟨t1, ⟨n, en⟩, p1⟩ := isLstF x1.ok q1 p1
  have rel1 := rel.grow x1
  refine ⟨t1, F1, ss, rel1, (PostF.f rel1 p1).toE fun r F2 H2 w e2 x2 p2 q2 => ?_⟩
  obtain ⟨jj, rfl, rfl, p2⟩ := intF q2 p2
  have rel2 := rel1.grow x2
  have p2' : PostF X.K Z W ((m ss).f ss fun r => (r.fix).f ss fun d => (updL o.view fun xs => if 0 ≤ jj ∧ jj < 4611686018427387904 ∧ xs.length < line then some (xs.take jj.toNat ++ [d] ++ xs.drop jj.toNat) else none).f ss fun _ => .nx ss) F2 D := p2
  refine ⟨F2, ss, rel2, (PostF.f rel2 p2').toE fun r F3 H3 w e3 x3 p3 q3 => ?_⟩
  obtain ⟨d, F4, s4, x4, r4, l4, p4⟩ := fixF x3 q3 p3
  have rel4 := rel2.grow x4
  rw [en] at p4
  obtain ⟨a, vs, xs, ys, rfl, h1, h2, h3, h4⟩ := updL_ok x4.ok (Rep.mono (x2.le.trans x4.le) _ _ (view_rep en q1)) (PostF.f rel4 p4)
  by_cases hl : 0 ≤ jj ∧ jj < 4611686018427387904 ∧ xs.length < line
  · rw [if_pos hl] at h3
    cases h3
    obtain ⟨F5, x5, p5⟩ := h4 (vs.take jj.toNat ++ [w] ++ vs.drop jj.toNat) (Reps.append (Reps.append (Reps.take _ h2) (Reps.cons r4 Reps.nil)) (Reps.drop _ h2))
    exact ⟨a, vs, jj, w, rfl, rfl, h1, by rw [← h2.length, ← line_eq]; exact hl.2.2, hl.1, by omega, p5.nx (rel4.grow x5)⟩
  · rw [if_neg hl] at h3; cases h3
theorem rset_snd {X : Cx} {W : WX} {m a n : List S → M R} : ∀ D σ H, tF X.K Z W (fun ss => (m ss).f ss fun r => (r.fix).f ss fun d => (a ss).f ss fun o => (n ss).f ss fun x => (asInt x).f ss fun j => (updL o.view fun xs => (ixN xs.length j).map fun n => xs.set n d).f ss fun _ => .nx ss) D σ H → tAsg (tE X.K Z W m) (gSub (tE X.K Z W a) (tE X.K Z W n) rSetL) D σ H := by
  intro D σ H h
  obtain ⟨F, ss, rel, p⟩ := h
  refine ⟨F, ss, rel, (PostF.f rel p).toE fun r F1 H1 v e x p1 q => ?_⟩
  obtain ⟨d, F2, s2, x2, r2, l2, p2⟩ := fixF x q p1
  have rel2 := rel.grow x2
  refine ⟨F2, ss, rel2, (PostF.f rel2 p2).toE fun o F3 H3 w e3 x3 p3 q3 => ?_⟩
  have rel3 := rel2.grow x3
  refine ⟨F3, ss, rel3, (PostF.f rel3 p3).toE fun y F4 H4 u e4 x4 p4 q4 => ?_⟩
  obtain ⟨jj, rfl, rfl, p5⟩ := intF q4 p4
  have rel4 := rel3.grow x4
  obtain ⟨b, vs, xs, ys, rfl, h1, h2, h3, h4⟩ := updL_okR x4.ok (RepR.ext x4 q3) (PostF.f rel4 p5)
  cases hn : ixN xs.length jj with
  | none => rw [hn] at h3; cases h3
  | some nn =>
    rw [hn] at h3
    cases h3
    obtain ⟨F5, x5, p6⟩ := h4 (vs.set nn v) (Reps.set nn h2 (Rep.mono (x3.le.trans x4.le) _ _ r2))
    exact ⟨b, vs, jj, nn, rfl, rfl, h1, by rw [← h2.length, ← ixN_eq]; exact hn, p6.nx (rel4.grow x5)⟩
/-! ### suites -/
/-- the suite's own: the error at a, of the class c, in slot i -/
abbrev Zx (Z : Z0) (a : Addr) (c i : Nat) : Z0 := { Z with hx := some (a, c, i) }
theorem Rel.toX {K : PySem.W.Frag} {f : Fz} {H : Hp} {ss : List S} {σ : L2.St} {a : Addr} {c i : Nat} (hz : Z.hx = none) (r : Rel K Z f ss σ H) : Rel K (Zx Z a c i) f (ss.set i (.exc c)) (σ.set i (some (.ref a))) H := by
  have e := r.emp (i := i) (o := some (.ref a))
  have hs : ∀ (j : Nat) s, i ≠ j → (ss.set i .emp)[j]? = some s → (ss.set i (.exc c))[j]? = some s := fun j s n h => by rw [List.getElem?_set_ne n] at h ⊢; exact h
  have hb : ∀ (j : Nat) s, i ≠ j → (ss.set i (.exc c))[j]? = some s → (ss.set i .emp)[j]? = some s := fun j s n h => by rw [List.getElem?_set_ne n] at h ⊢; exact h
  have hi : ∀ s, (ss.set i (.exc c))[i]? = some s → s = .exc c := fun s h => by
    by_cases hl : i < ss.length
    · rw [List.getElem?_set_self hl] at h; exact (Option.some.inj h).symm
    · rw [List.getElem?_eq_none (by simpa using hl)] at h; cases h
  exact
    { ext := e.ext
      len := by simp [r.len]
      val := fun j d h => by
        by_cases n : i = j
        · subst n; cases hi _ h
        · exact e.val j d (hb j _ n h)
      own := fun j xs h => by
        by_cases n : i = j
        · subst n; cases hi _ h
        · exact e.own j xs (hb j _ n h)
      dis := fun j l xs ys b n h1 h2 h3 h4 => by
        by_cases n1 : i = j
        · subst n1; cases hi _ h1
        · by_cases n2 : i = l
          · subst n2; cases hi _ h2
          · exact e.dis j l xs ys b n (hb j _ n1 h1) (hb l _ n2 h2) h3 h4
      exc := fun j d h => by
        by_cases n : i = j
        · subst n
          cases hi _ h
          refine ⟨a, rfl, ?_⟩
          have hl : i < ss.length := by
            have := (List.getElem?_eq_some_iff.mp h).1
            simpa using this
          rw [List.getElem?_set_self (r.lt hl)]
        · obtain ⟨b, z, _⟩ := e.exc j d (hb j _ n h)
          rw [hz] at z; cases z }
theorem Rel.ofX {K : PySem.W.Frag} {f : Fz} {H : Hp} {ss : List S} {σ : L2.St} {a : Addr} {c i : Nat} (r : Rel K (Zx Z a c i) f ss σ H) : Rel K Z f (ss.set i .emp) (σ.set i none) H := by
  have e := r.emp (i := i) (o := none)
  exact
    { ext := e.ext
      len := e.len
      val := e.val
      own := e.own
      dis := e.dis
      exc := fun j d h => by
        obtain ⟨b, z, _⟩ := e.exc j d h
        have z' : some (a, c, i) = some (b, d, j) := z
        cases z'
        by_cases hl : i < ss.length
        · rw [List.getElem?_set_self hl] at h; cases h
        · rw [List.getElem?_eq_none (by simpa using hl)] at h; cases h }
theorem call_isET {X : Cx} {a D : Addr} {oe : Obj} {pn : List (Addr × Obj)} (C : ExcC X.K D) (hz : Zc (.ref D) none oe) (hf : ∃ vs, oe.data = .fields vs) : CallR (X.suite a ((a, oe) :: pn)) (.builtin "isinstance")
    (fun xs H Q => ∃ (tp : Addr) (cs : List V) (us : List Value) (b : Bool), xs = [.ref a, .ref tp] ∧ H tp = some (.tup cs) ∧ Paired ClsV cs us ∧ PySem.W.kitAny X.K (.ref D) us = some b ∧ Q (.bl b) H) := by
  intro pins s σ H xs us Q I r h
  obtain ⟨tp, cs, ws, b, rfl, hT, k, e, q⟩ := h
  obtain ⟨u1, u2, rfl, r1, r2⟩ := vals2 r
  cases (show u2 = Value.ref tp from r2)
  cases (show u1 = Value.ref a from r1)
  obtain ⟨hget, _⟩ := I.pin (a, oe) (List.mem_append.mpr (.inl List.mem_cons_self))
  obtain ⟨vs, hv⟩ := hf
  have J : PySem.W.InstAt s.heap a oe D none := by
    obtain ⟨oc, od, oda, osl⟩ := oe
    obtain ⟨h1, h2⟩ := hz
    dsimp only at h1 h2 hv
    subst h1 h2 hv
    exact ⟨hget, rfl, rfl, trivial⟩
  obtain ⟨_, its, rv, o, h1, h2, n, h3⟩ := (show ObjOk X.prog X.w H s.heap tp (.tup cs) from I.hok tp _ hT)
  have e3 := ClsV.all k rv
  subst e3
  obtain ⟨oc, od, dt, sl⟩ := o
  simp only at h2 h3
  subst h2 h3
  exact PySem.W.kia_tup (PySem.W.handS_kitx_exc C.hg C.hk C.hs C.hd C.ha C.hn C.ht C.hm) I.kIn J h1 e (fun z => nomatch z) fun tk => ⟨.bl b, H, I.kept (t' := tk) fun _ _ z => z, rfl, q⟩
theorem kitAny_of {X : Cx} {D : Addr} {c : Nat} (hs : ∀ k b, sub c k = some b → PySem.W.kitOne X.K (.ref D) (Z.cls k) = some b) : ∀ (ks : List Nat) (b : Bool), anyO sub c ks = some b → PySem.W.kitAny X.K (.ref D) (ks.map Z.cls) = some b
  | [], b, h => by unfold anyO at h; cases h; exact kitAny_nil
  | k :: ks, b, h => by
    unfold anyO at h
    cases e : sub c k with
    | none => rw [e] at h; cases h
    | some t =>
      rw [e] at h
      cases t with
      | true => cases h; exact kitAny_cons (hs k true e) (fun z => by cases z) (fun _ => rfl)
      | false => exact kitAny_cons (hs k false e) (fun _ => kitAny_of hs ks b h) (fun z => by cases z)
theorem clsV_all : ∀ (Cs : List Addr), Paired ClsV (Cs.map V.ref) (Cs.map Value.ref)
  | [] => .nil
  | C :: Cs => .cons (.own C) (clsV_all Cs)
theorem GoodS.suite {X : Cx} {W : WX} {calm : Bool} (g : GoodS X St Z W G sub k calm) {a : Addr} {oe : Obj} {pn : List (Addr × Obj)} {c i : Nat} (hz : Zc (Z.cls c) none oe) (hf : ∃ vs, oe.data = .fields vs) (hk : ∃ k b, sub c k = some b) :
    GoodS (X.suite a ((a, oe) :: pn)) St (Zx Z a c i) W0 G sub k false := by
  have hisx : ∀ a' c' j, (Zx Z a c i).hx = some (a', c', j) → CallR (X.suite a ((a, oe) :: pn)) (.builtin "isinstance") (rIsX (Zx Z a c i) sub a' c') := by
    intro a' c' j e
    have e' : some (a, c, i) = some (a', c', j) := e
    cases e'
    obtain ⟨kk, bb, hkb⟩ := hk
    obtain ⟨D, hD, xc⟩ := g.exd c kk bb hkb
    rw [hD] at hz
    have C1 := call_isE (X := X) (a := a) (pn := pn) xc hz hf
    have C2 := call_isET (X := X) (a := a) (pn := pn) xc hz hf
    intro pins s σ H xs us Q I r h
    rcases h with ⟨k1, C, b, h1, h2, h3, h4⟩ | ⟨b, h1, h2, h3, h4⟩ | ⟨tp, ks, Cs, b, h1, h2, h3, h4, h5⟩
    · refine C1 pins s σ H xs us Q I r ⟨.ref C, .ref C, b, h1, fun u hu => hu, ?_, h4⟩
      have q := (g.g.subx c k1 b h3).2.1
      have h2' : Z.cls k1 = .ref C := h2
      rw [hD, h2'] at q
      exact q
    · refine C1 pins s σ H xs us Q I r ⟨.ty "ValueError", .type "ValueError", b, h1, fun u hu => hu, ?_, h4⟩
      have q := (g.g.subx c 99 b h3).2.1
      have h2' : Z.cls 99 = .type "ValueError" := h2
      rw [hD, h2'] at q
      exact q
    · refine C2 pins s σ H xs us Q I r ⟨tp, _, _, b, h1, h2, clsV_all Cs, ?_, h5⟩
      rw [← h3]
      exact kitAny_of (Z := Zx Z a c i) (X := X) (fun k b e => by
        have q := (g.g.subx c k b e).2.1
        rw [hD] at q
        exact q) ks b h4
  exact { g := ⟨g.g.N, g.g.nd, takes0, (fun z => by cases z), g.g.un, g.g.fn, g.g.cs, g.g.blt, g.g.exn, g.g.subx, hisx, g.g.gl⟩, po := (fun z => by cases z), st := g.st, fr := g.fr, kd := g.kd, fn1 := g.fn1, exc := g.exc, exd := g.exd }
theorem GoodS.suite0 {X : Cx} {W : WX} (g : GoodS X St Z W G sub k true) {a : Addr} {pn : List (Addr × Obj)} : GoodS (X.suite a pn) St Z W0 G sub k false := by
  have hisx : ∀ a' c' j, Z.hx = some (a', c', j) → CallR (X.suite a pn) (.builtin "isinstance") (rIsX Z sub a' c') := by
    intro a' c' j e
    rw [(g.g.calm rfl).2.2] at e
    cases e
  exact { g := ⟨g.g.N, g.g.nd, takes0, (fun z => by cases z), g.g.un, g.g.fn, g.g.cs, g.g.blt, g.g.exn, g.g.subx, hisx, g.g.gl⟩, po := (fun z => by cases z), st := g.st, fr := g.fr, kd := g.kd, fn1 := g.fn1, exc := g.exc, exd := g.exd }
theorem GoodS.tr {X : Cx} {W W' : WX} {calm : Bool} (g : GoodS X St Z W G sub k calm) {pn : List (Addr × Obj)} {xe : Value → Shared → Prop} (tk : Takes (X.tr pn xe) W') (po : PassesOwn (model X.prog X.w) X.A X.env xe) (hx : Z.hx = none) : GoodS (X.tr pn xe) St Z W' G sub k calm :=
  { g := ⟨g.g.N, g.g.nd, tk, g.g.calm, g.g.un, g.g.fn, g.g.cs, g.g.blt, g.g.exn, g.g.subx, fun a' c' j e => (by rw [hx] at e; cases e), g.g.gl⟩
    po := fun _ => po
    st := g.st, fr := g.fr, kd := g.kd, fn1 := g.fn1, exc := g.exc, exd := g.exd }
end
end EV

set_option Elab.async false
set_option linter.all false
set_option autoImplicit false
set_option maxRecDepth 100000
set_option maxHeartbeats 16000000
/-! EwC2: statements are what the evaluator says. -/
namespace EV
open PySem PySem.Spec PyProof.Rows L2
section
variable {St : Stc} {Z : Z0} {G : Env} {sub : Sub} {k : Nat} {fuel : Nat}
theorem swB_ok {sc : Scope} {y : Str} {py : Pos} {v : Expr} {b : Bool} {env : PySem.Env} {l : Nat} (hs : env.scope = sc) (hk : sc.kind = .function) (h : swB sc y py v = some b) : swapsWith v (some (.Name y py)) l env = pure b ∧ (b = true → ∃ elt gs scope pos, v = .ListComp elt gs scope pos) := by
  subst hs
  unfold swB at h
  split at h
  · rename_i elt gs scope pos
    split at h
    · rename_i hc
      cases h
      simp only [Bool.and_eq_true, decide_eq_true_eq, Bool.not_eq_true'] at hc
      exact ⟨sw_true hk hc.1.1 hc.1.2 hc.2, fun _ => ⟨elt, gs, scope, pos, rfl⟩⟩
    · split at h
      · rename_i hc
        cases h
        have hy := of_decide_eq_true hc
        have ky : env.kindOf y = some .cell := hy
        refine ⟨?_, fun z => nomatch z⟩
        unfold swapsWith
        simp only [ky]
        have : (some NameKind.cell == some NameKind.local) = false := by decide
        simp only [this, Bool.and_false, Bool.false_and]
        try rfl
      · cases h
  · split at h
    · rename_i hn
      cases h
      exact ⟨swaps_lc hn, fun z => nomatch z⟩
    · cases h
theorem swapped_none {t v : Expr} {env : PySem.Env} (h : notTup v = true) : swappedStores [t] v env = pure none := by
  cases v <;> first | (simp [notTup] at h; done) | (cases t <;> rfl)
theorem assign_sub {a x : Expr} {pos : Pos} {env : PySem.Env} {v : Value} (h : notSlice x = true) : assign (.Subscript a x pos) env v = (do
    let ov ← holding [v] (eval a env)
    let iv ← holding [v, ov] (eval x env)
    standAt pos
    holding [v, ov, iv] (setItem ov iv v)
    release [v, ov, iv] []) := by
  cases x <;> first | rfl | (simp [notSlice] at h)
theorem aEach1 {t : Expr} {env : PySem.Env} (h : notStar t = true) : (assignEach [t] env).map (·.2) = [assign t env] := by
  rw [assignEach_cons h]; rfl
theorem notStar_tup {t : Expr} (h : tgIsTup t = true) : notStar t = true := by cases t <;> first | rfl | (simp [tgIsTup] at h)
theorem sndLc (vs : List Nat) (tg : Tg) (it : I) (c : Option E) (x : E) {X : Cx} {Z : Z0} {W : WX} {calm : Bool} {i : Nat} {y : Str} {py : Pos} {elt : Expr} {gs : List Comprehension} {scope : Scope} {lpos pos : Pos} (g : GoodS X St Z W G sub k calm)
    (h : chkE St calm X.env.scope (.lc vs tg it c x) (.ListComp elt gs scope lpos) = true) (hN : X.N[i]? = some y) (hyl : X.env.scope.names.lookup y = some .local) (hsw : swapsWith (.ListComp elt gs scope lpos) (some (.Name y py)) pos.line X.env = pure true) :
    PS X (.Assign [.Name y py] (.ListComp elt gs scope lpos) pos) (tF X.K Z W (evT G sub fuel (.asg (.nm i) (.lc vs tg it c x)))) := by
  have h0 := h
  unfold chkE at h
  split at h
  · rename_i elt' t iter ifs as scope' lpos' heq
    cases heq
    simp only [Bool.and_eq_true, decide_eq_true_eq] at h
    obtain ⟨⟨⟨⟨⟨⟨⟨⟨hc, ha⟩, hb⟩, hi⟩, hns⟩, ht⟩, hix⟩, hcd⟩, hx⟩ := h
    subst ha
    have hcalm := (g.g.calm hc).1
    have hz := (g.g.calm hc).2.2
    have bo := blkOk_by (sc := X.env.scope) (own := ownOf St.N vs) (by rw [← g.g.N] at hb; rw [← g.g.N]; exact hb)
    have key := ps_setLc (i := i) (spos := pos) (ifs := ifs) (own := ownOf St.N vs) (g := gT X.K Z tg) (tt := tB X.K Z W0 (evC G sub c)) (te := tE X.K Z W0 (evE G sub x)) (pos := lpos) hcalm g.g.nd hN hyl hsw (sndI it (sub := sub) (tg := t) g.g hi) bo
      (fun s H C cl fp => sndTg (St := St) tg (X := X.blk s H scope (compEnvC scope cl C X.env) fp) hcalm g.g.N g.g.nd g.g.clsOk (fun y hy => loc_relS (sc := X.env.scope) hy) ht)
      (fun s H C cl fp => sndC c (g.g.blk hz s H scope (compEnvC scope cl C X.env) fp) hcd)
      (fun s H C cl fp => sndE x (g.g.blk hz s H scope (compEnvC scope cl C X.env) fp) hx)
      (notSet_of hns)
    rw [ownOf_snd] at key
    refine PS.imp key fun D σ H ⟨f, ss, rel, p⟩ => ?_
    have p' : PostF X.K Z W ((evE G sub (.lc vs tg it c x) ss).f ss fun r => putR i r ss) f D := by simpa only [evT, asgR] using p
    have q : tE X.K Z W (evE G sub (.lc vs tg it c x)) σ H fun v H1 => D.nx (σ.set i (some v)) H1 := asg_snd D σ H ⟨f, ss, rel, p'⟩
    have q2 : tE X.K Z W (evE G sub (.lc vs tg it c x)) σ H fun x H1 => gName i x σ H1 D.nx := q
    exact lc_snd hix (by simpa only [evE] using q2)
  · cases h
/-- the clauses without a name -/
def lOf (G : Env) (sub : Sub) (fuel : Nat) (K : PySem.W.Frag) (Z : Z0) : List (List Nat × Option Nat × List T) → List (Value × (Addr → Value → Option Addr → TS))
  | [] => []
  | (ks, _, sb) :: r => (Z.cls (ks.headD 0), fun _ _ _ => tF K Z W0 (evTs G sub fuel sb)) :: lOf G sub fuel K Z r
theorem headNone {sc : Scope} {ks : List Nat} {sb : List T} {r : List (List Nat × Option Nat × List T)} {hh : List ExceptHandler} (h : chkHs St sc ((ks, none, sb) :: r) hh = true) : (((ks, none, sb) :: r).all fun h => h.2.1.isNone) = true := by
  unfold chkHs at h
  split at h
  · rename_i cn pc n x xs hpos h'
    simp only [Bool.and_eq_true] at h
    obtain ⟨⟨⟨⟨⟨hk, hg⟩, hok⟩, hno⟩, hsb⟩, hr⟩ := h
    cases n with
    | some y => cases hno
    | none =>
      rw [List.all_cons]
      simpa using hno
  · cases h
theorem PostF.seq {K : PySem.W.Frag} {Z : Z0} {W : WX} {z : EV.F} {k : List S → EV.F} {F : Fz} {D : Ends} {N : L2.St → Hp → Prop} (p : PostF K Z W (z.seq k) F D) (h : ∀ σ' H' F' s, Rel K Z F' s σ' H' → Le F F' → PostF K Z W (k s) F' D → N σ' H') : PostF K Z W z F { D with nx := N } := by
  unfold PostF EV.F.seq at p
  unfold PostF
  cases e : z F.st with
  | nx s st => rw [e] at p; exact fun σ' H' F' es r q => h σ' H' F' s r q (by subst es; exact PostF.at (z := fun _ => k s F'.st) (f := F) p q rfl)
  | ct ss st => rw [e] at p; exact p
  | bk ss st => rw [e] at p; exact p
  | rt r st => rw [e] at p; exact p
  | ex c ss st => rw [e] at p; exact p
  | bad => rw [e] at p; exact p.elim
theorem PostF.seq_nx {K : PySem.W.Frag} {Z : Z0} {W : WX} {ss : List S} {k : List S → EV.F} {F : Fz} {D : Ends} (p : PostF K Z W (EV.F.seq (EV.F.nx ss) k) F D) : PostF K Z W (k ss) F D := p
theorem PostF.hao {K : PySem.W.Frag} {Z : Z0} {W : WX} {z : EV.F} {F : Fz} {D : Ends} (p : PostF K Z W z.hao F D) : PostF K Z W0 z F D := by
  unfold PostF EV.F.hao at p
  unfold PostF
  cases e : z F.st with
  | nx ss st => rw [e] at p; exact p
  | ct ss st => rw [e] at p; exact p
  | bk ss st => rw [e] at p; exact p
  | rt r st => rw [e] at p; exact p
  | ex c ss st => rw [e] at p; exact p.elim
  | bad => rw [e] at p; exact p.elim
theorem PostF.tr {K : PySem.W.Frag} {Z : Z0} {W W' : WX} {z : EV.F} {k : Nat → List S → EV.F} {F : Fz} {D : Ends} (p : PostF K Z W (z.tr k) F D) (h : ∀ c s σ' H' F', Rel K Z F' s σ' H' → Le F F' → PostF K Z W (k c s) F' D → W' (Z.cls c) none σ' H') : PostF K Z W' z F D := by
  unfold PostF EV.F.tr at p
  unfold PostF
  cases e : z F.st with
  | nx ss st => rw [e] at p; exact p
  | ct ss st => rw [e] at p; exact p
  | bk ss st => rw [e] at p; exact p
  | rt r st => rw [e] at p; exact p
  | ex c ss st =>
    rw [e] at p
    exact fun σ' H' F' es r q => h c ss σ' H' F' r q (by subst es; exact PostF.at (z := fun _ => k c ss F'.st) (f := F) p q rfl)
  | bad => rw [e] at p; exact p.elim
theorem wMany_of {X : Cx} {Z : Z0} {W : WX} (g : GoodS X St Z W G sub k true) : ∀ (hs : List (List Nat × Option Nat × List T)) {hh : List ExceptHandler} {c : Nat} {s' : List S} {D : Ends}, chkHs St X.env.scope hs hh = true → (hs.all fun h => h.2.1.isNone) = true →
    ∀ σ' H' F', Rel X.K Z F' s' σ' H' → PostF X.K Z W (evHs G sub fuel hs c s') F' D → wMany X.K W D (lOf G sub fuel X.K Z hs) (Z.cls c) none σ' H'
  | [], hh, c, s', D, h, hn, σ', H', F', r, p => by
    unfold evHs at p
    exact p σ' H' F' rfl r (Le.refl _)
  | (ks, o, sb) :: rs, hh, c, s', D, h, hn, σ', H', F', r, p => by
    unfold chkHs at h
    split at h
    · rename_i cn pc n x xs hpos h'
      simp only [Bool.and_eq_true, decide_eq_true_eq] at h
      obtain ⟨⟨⟨⟨⟨hk, hg⟩, hok⟩, hno⟩, hsb⟩, hr⟩ := h
      rw [List.all_cons, Bool.and_eq_true] at hn
      cases o with
      | some i => simp at hn
      | none =>
        split at hk
        · rename_i kk
          unfold evHs anyO at p
          cases es : sub c kk with
          | none => rw [es] at p; exact (show False from p).elim
          | some t =>
            rw [es] at p
            have hex := (g.g.subx c kk t es).1
            unfold lOf wMany
            refine ⟨t, hex, fun ht a na => ?_, fun ht => ?_⟩
            · subst ht
              exact ⟨F', s', r, PostF.hao (W := W) p⟩
            · subst ht
              dsimp only [anyO] at p
              exact wMany_of g rs hr hn.2 σ' H' F' r p
        · cases hk
    · cases h
mutual
theorem sndTT : ∀ (t : T) {X : Cx} {Z : Z0} {W : WX} {calm : Bool} {s : Stmt}, GoodS X St Z W G sub k calm → chkT St X.env.scope calm t s = true → PS X s (tF X.K Z W (evT G sub fuel t))
  | .pass, X, Z, W, calm, s, g, h => by
    unfold chkT at h
    split at h
    · exact PS.imp ps_pass fun D σ H ⟨f, ss, rel, p⟩ => by unfold evT at p; exact p.nx rel
    · exact PS.imp ps_doc fun D σ H ⟨f, ss, rel, p⟩ => by unfold evT at p; exact p.nx rel
    · cases h
  | .frz i, X, Z, W, calm, s, g, h => by unfold chkT at h; cases h
  | .bxs i, X, Z, W, calm, s, g, h => by unfold chkT at h; cases h
  | .asg tg e, X, Z, W, calm, s, g, h => by
    unfold chkT at h
    split at h
    · rename_i t v pos
      simp only [Bool.and_eq_true] at h
      obtain ⟨he, ht⟩ := h
      have A := sndE e g.g he
      cases tg with
      | nm i =>
        split at ht
        · rename_i i1 y py heq
          cases heq
          simp only [Bool.and_eq_true, decide_eq_true_eq] at ht
          obtain ⟨⟨hN, hl⟩, hw⟩ := ht
          have hN' : X.N[i]? = some y := by rw [g.g.N]; exact hN
          have hloc := g.hloc y hl
          split at hw
          · rename_i hs
            rw [Bool.and_eq_true] at hw
            have hq := swB_ok (env := X.env) (l := pos.line) rfl g.kd hs
            obtain ⟨elt, gs, scope, lpos, rfl⟩ := hq.2 rfl
            have hyl : X.env.scope.names.lookup y = some .local := by
              unfold swB at hs
              dsimp only at hs
              split at hs
              · rename_i hc
                simp only [Bool.and_eq_true, decide_eq_true_eq] at hc
                exact hc.1.1
              · split at hs <;> cases hs
            cases e with
            | lc vs tg' it c x =>
              exact sndLc vs tg' it c x g he hN' hyl hq.1
            | _ => simp [isLc] at hw
          · rename_i hs
            have hq := swB_ok (env := X.env) (l := pos.line) rfl g.kd hs
            exact PS.imp (ps_set g.g.nd hN' hloc.1 A hq.1 hloc.2) fun D σ H q => asg_snd D σ H (by simpa only [evT, asgR] using q)
          · cases hw
        · rename_i heq
          cases heq
        · cases ht
      | fl _ _ _ => cases ht
      | tup ts =>
        simp only [Bool.and_eq_true] at ht
        obtain ⟨⟨⟨⟨hc, htp⟩, htg⟩, hlc⟩, htu⟩ := ht
        have hcalm := (g.g.calm hc).1
        have T := sndTg (St := St) (Z := Z) (.tup ts) (X := X) (sc := X.env.scope) hcalm g.g.N g.g.nd g.g.clsOk g.hloc htg
        exact PS.imp (ps_asg A T (by unfold swapsWithSole; exact swaps_lc hlc) (swapped_none htu) (aEach1 (notStar_tup htp))) fun D σ H q => asgT_snd D σ H (by simpa only [evT] using q)
    · cases h
  | .par is es, X, Z, W, calm, s, g, h => by
    unfold chkT at h
    split at h
    · rename_i i j a b x px y py kt pt u v k2 pt2 pos
      simp only [Bool.and_eq_true, decide_eq_true_eq, Bool.not_eq_true'] at h
      obtain ⟨⟨⟨⟨⟨⟨⟨⟨⟨⟨⟨⟨⟨hc, hij⟩, hi⟩, hj⟩, hx⟩, hy⟩, hl⟩, hne⟩, hsu⟩, hsv⟩, hf⟩, hca⟩, ha⟩, hb⟩ := h
      have hcalm := (g.g.calm hc).1
      have A := pa_consD (sub := sub) hsu (sndE a g.g ha) (pa_consD hsv (sndE b g.g hb) (pa_nilD (Z := Z) (G := G) (sub := sub) (W := W)))
      exact PS.imp (ps_par hcalm g.g.nd (by rw [g.g.N]; exact hi) (by rw [g.g.N]; exact hj) hij hx hy A (swapped2 g.kd hx hy hl hne hsu hsv hf hca)) fun D σ H q => par_snd hij D σ H (by simpa only [evT] using q)
    · cases h
  | .setix i ix e, X, Z, W, calm, s, g, h => by
    unfold chkT at h
    split at h
    · rename_i y py x psub v pos
      simp only [Bool.and_eq_true, decide_eq_true_eq] at h
      obtain ⟨⟨⟨⟨⟨⟨hN, hv⟩, hok⟩, hns⟩, htu⟩, hix⟩, he⟩ := h
      have P := pe_var (pos := py) (i := i) (X := X) (by rw [g.g.N]; exact hN) (vis_of hv) (okName_1 hok) (okName_2 hok)
      exact PS.imp (ps_asg (sndE e g.g he) (pg_sub P (sndE ix g.g hix) set_list (fun v => assign_sub hns)) (by unfold swapsWithSole; exact swaps_sub) (swapped_none htu)) fun D σ H q => setix_snd D σ H (by simpa only [evT] using q)
    · cases h
  | .aug i o e, X, Z, W, calm, s, g, h => by
    unfold chkT at h
    split at h
    · rename_i y py p v pos
      simp only [Bool.and_eq_true, decide_eq_true_eq] at h
      obtain ⟨⟨⟨⟨rfl, ho⟩, hN⟩, hl⟩, he⟩ := h
      have hloc := g.hloc y hl
      exact PS.imp (ps_aug g.g.nd (by rw [g.g.N]; exact hN) hloc.1 (sndE e g.g he) (ip_D (Z := Z) (W := W) _ ho) hloc.2) fun D σ H q => aug_snd D σ H (by simpa only [evT] using q)
    · cases h
  | .app i e, X, Z, W, calm, s, g, h => by
    unfold chkT at h
    split at h
    · rename_i y py m apos v cpos pos
      simp only [Bool.and_eq_true, decide_eq_true_eq] at h
      obtain ⟨⟨⟨⟨⟨⟨hm, hli⟩, hsv⟩, hN⟩, hv⟩, hok⟩, he⟩ := h
      subst hm
      have P := pe_var (pos := py) (i := i) (X := X) (by rw [g.g.N]; exact hN) (vis_of hv) (okName_1 hok) (okName_2 hok)
      have A := pa_cons (sndE e g.g he) pa_nil (starEach_of hsv)
      have C := pe_bm (apos := apos) (cpos := cpos) PySem.F.plainAttrs_list PySem.F.slot_list_append PySem.F.type_list_append mt_append P A rfl (by rw [starEach_of hsv]; rfl) hli (starEach_of hsv) rfl
      exact PS.imp (ps_expr C) fun D σ H q => app_snd D σ H (by simpa only [evT] using q)
    · cases h
  | .ext i e, X, Z, W, calm, s, g, h => by
    unfold chkT at h
    split at h
    · rename_i y py m apos v cpos pos
      simp only [Bool.and_eq_true, decide_eq_true_eq] at h
      obtain ⟨⟨⟨⟨⟨⟨hm, hli⟩, hsv⟩, hN⟩, hv⟩, hok⟩, he⟩ := h
      subst hm
      have P := pe_var (pos := py) (i := i) (X := X) (by rw [g.g.N]; exact hN) (vis_of hv) (okName_1 hok) (okName_2 hok)
      have A := pa_cons (sndE e g.g he) pa_nil (starEach_of hsv)
      have C := pe_bm (apos := apos) (cpos := cpos) PySem.F.plainAttrs_list PySem.F.slot_list_extend PySem.F.type_list_extend mt_extend P A rfl (by rw [starEach_of hsv]; rfl) hli (starEach_of hsv) rfl
      exact PS.imp (ps_expr C) fun D σ H q => ext_snd D σ H (by simp only [evT] at q; exact q)
    · cases h
  | .fset c j a e, X, Z, W, calm, s, g, h => by
    unfold chkT at h
    split at h
    · rename_i o f py v pos
      simp only [Bool.and_eq_true] at h
      obtain ⟨⟨⟨hsu, hf⟩, ha⟩, he⟩ := h
      exact PS.imp (ps_fld (sndE a g.g ha) (sndE e g.g he) swaps_att) fun D σ H q => fset_snd g.g.clsOk hf D σ H (by simpa only [evT] using q)
    · cases h
  | .rapp a e, X, Z, W, calm, s, g, h => by
    unfold chkT at h
    split at h
    · rename_i o m apos v cpos pos
      simp only [Bool.and_eq_true, decide_eq_true_eq] at h
      obtain ⟨⟨⟨⟨⟨hm, hli⟩, hsu⟩, hsv⟩, ha⟩, he⟩ := h
      subst hm
      have A := pa_cons (sndE e g.g he) pa_nil (starEach_of hsv)
      have C := pe_bm (apos := apos) (cpos := cpos) PySem.F.plainAttrs_list PySem.F.slot_list_append PySem.F.type_list_append mt_append (sndE a g.g ha) A (notSup_of hsu) (by rw [starEach_of hsv]; rfl) hli (starEach_of hsv) rfl
      exact PS.imp (ps_expr C) fun D σ H q => rapp_snd D σ H (by simpa only [evT] using q)
    · cases h
  | .rext a e, X, Z, W, calm, s, g, h => by
    unfold chkT at h
    split at h
    · rename_i o m apos v cpos pos
      simp only [Bool.and_eq_true, decide_eq_true_eq] at h
      obtain ⟨⟨⟨⟨⟨hm, hli⟩, hsu⟩, hsv⟩, ha⟩, he⟩ := h
      subst hm
      have A := pa_cons (sndE e g.g he) pa_nil (starEach_of hsv)
      have C := pe_bm (apos := apos) (cpos := cpos) PySem.F.plainAttrs_list PySem.F.slot_list_extend PySem.F.type_list_extend mt_extend (sndE a g.g ha) A (notSup_of hsu) (by rw [starEach_of hsv]; rfl) hli (starEach_of hsv) rfl
      exact PS.imp (ps_expr C) fun D σ H q => rext_snd D σ H (by simp only [evT] at q; exact q)
    · cases h
  | .rrem a e, X, Z, W, calm, s, g, h => by
    unfold chkT at h
    split at h
    · rename_i o m apos v cpos pos
      simp only [Bool.and_eq_true, decide_eq_true_eq] at h
      obtain ⟨⟨⟨⟨⟨hm, hli⟩, hsu⟩, hsv⟩, ha⟩, he⟩ := h
      subst hm
      have A := pa_cons (sndE e g.g he) pa_nil (starEach_of hsv)
      have C := pe_bm (apos := apos) (cpos := cpos) PySem.F.plainAttrs_list PySem.F.slot_list_remove PySem.F.type_list_remove mt_remove (sndE a g.g ha) A (notSup_of hsu) (by rw [starEach_of hsv]; rfl) hli (starEach_of hsv) rfl
      exact PS.imp (ps_expr C) fun D σ H q => rrem_snd D σ H (by simpa only [evT] using q)
    · cases h
  | .rins a i e, X, Z, W, calm, s, g, h => by
    unfold chkT at h
    split at h
    · rename_i o m apos x v cpos pos
      simp only [Bool.and_eq_true, decide_eq_true_eq] at h
      obtain ⟨⟨⟨⟨⟨⟨⟨hm, hli⟩, hsu⟩, hsx⟩, hsv⟩, ha⟩, hi⟩, he⟩ := h
      subst hm
      have A := pa_cons (sndE i g.g hi) (pa_cons (sndE e g.g he) pa_nil (starEach_of hsv)) (starEach_of (es := [v]) hsx)
      have C := pe_bm (apos := apos) (cpos := cpos) PySem.F.plainAttrs_list PySem.F.slot_list_insert PySem.F.type_list_insert mt_insert (sndE a g.g ha) A (notSup_of hsu) (few_ok (by simp [hsx, hsv]) (by simp)) hli (starEach_of hsx) (starEach_any (by simp [hsv]))
      exact PS.imp (ps_expr C) fun D σ H q => rins_snd D σ H (by simpa only [evT] using q)
    · cases h
  | .rset a ix e, X, Z, W, calm, s, g, h => by
    unfold chkT at h
    split at h
    · rename_i o x psub v pos
      simp only [Bool.and_eq_true] at h
      obtain ⟨⟨⟨⟨hns, htu⟩, ha⟩, hix⟩, he⟩ := h
      exact PS.imp (ps_asg (sndE e g.g he) (pg_sub (sndE a g.g ha) (sndE ix g.g hix) set_list (fun v => assign_sub hns)) (by unfold swapsWithSole; exact swaps_sub) (swapped_none htu)) fun D σ H q => rset_snd D σ H (by simpa only [evT] using q)
    · cases h
  | .pop j i, X, Z, W, calm, s, g, h => by
    unfold chkT at h
    split at h
    · rename_i x px y py m apos cpos pos
      simp only [Bool.and_eq_true, decide_eq_true_eq] at h
      obtain ⟨⟨⟨⟨⟨⟨⟨hm, hli⟩, hij⟩, hNx⟩, hlx⟩, hN⟩, hv⟩, hok⟩ := h
      subst hm
      have P := pe_var (pos := py) (i := i) (X := X) (by rw [g.g.N]; exact hN) (vis_of hv) (okName_1 hok) (okName_2 hok)
      have C := pe_bm0 (apos := apos) (cpos := cpos) PySem.F.plainAttrs_list PySem.F.slot_list_pop PySem.F.type_list_pop mt_pop P rfl hli
      have hloc := g.hloc x hlx
      exact PS.imp (ps_set g.g.nd (by rw [g.g.N]; exact hNx) hloc.1 C (swaps_lc rfl) hloc.2) fun D σ H q => pop_snd hij D σ H (by simpa only [evT] using q)
    · cases h
  | .exp e, X, Z, W, calm, s, g, h => by
    unfold chkT at h
    split at h
    · simp only [Bool.and_eq_true] at h
      exact PS.imp (ps_expr (sndE e g.g h.2) (swaps_lc h.1)) fun D σ H q => exp_snd D σ H (by simpa only [evT] using q)
    · cases h
  | .ret e, X, Z, W, calm, s, g, h => by
    unfold chkT at h
    split at h
    · rename_i v pos
      have A := sndE e g.g h
      cases e with
      | var i =>
        unfold chkE at h
        split at h
        · rename_i x px
          simp only [Bool.and_eq_true, decide_eq_true_eq] at h
          exact PS.imp (ps_ret (pe_var (i := i) (by rw [g.g.N]; exact h.1.1) (vis_of h.1.2) (okName_1 h.2) (okName_2 h.2))) fun D σ H q => retV_snd D σ H (by simpa only [evT, retR] using q)
        · cases h
      | _ => exact PS.imp (ps_ret A) fun D σ H q => retE_snd D σ H (by simpa only [evT, retR] using q)
    · cases h
  | .retN, X, Z, W, calm, s, g, h => by
    unfold chkT at h
    split at h
    · refine PS.imp ps_retN fun D σ H ⟨f, ss, rel, p⟩ => ?_
      unfold evT at p
      exact p .non H ⟨f, rfl, rel.ext, (show Rep X.K f .non .non from repNon), trivial⟩
    · cases h
  | .iff c a b, X, Z, W, calm, s, g, h => by
    unfold chkT at h
    split at h
    · simp only [Bool.and_eq_true] at h
      obtain ⟨⟨⟨ht, hc⟩, ha⟩, hb⟩ := h
      exact PS.imp (ps_if (sndT c ht g.g hc) (sndTs a g ha) (sndTs b g hb)) fun D σ H q => iff_snd D σ H (by simpa only [evT] using q)
    · cases h
  | .whl c b, X, Z, W, calm, s, g, h => by
    unfold chkT at h
    split at h
    · simp only [Bool.and_eq_true] at h
      obtain ⟨⟨⟨hcm, ht⟩, hc⟩, hb⟩ := h
      exact PS.imp (ps_while (g.po hcm) (sndT c ht g.g hc) (sndTs b g hb)) fun D σ H q => while_snd D σ H (by simpa only [evT] using q)
    · cases h
  | .forr tg it b, X, Z, W, calm, s, g, h => by
    unfold chkT at h
    split at h
    · simp only [Bool.and_eq_true] at h
      obtain ⟨⟨⟨⟨hcm, ht⟩, hi⟩, hs⟩, hb⟩ := h
      have hcalm := (g.g.calm hcm).1
      exact PS.imp (ps_for (g.po hcm) hcalm (sndI it g.g hi) (sndTg (St := St) (Z := Z) tg (X := X) (sc := X.env.scope) hcalm g.g.N g.g.nd g.g.clsOk g.hloc ht) (sndTs b g hb) (notSet_of hs)) fun D σ H q => for_snd D σ H (by simpa only [evT] using q)
    · cases h
  | .brk, X, Z, W, calm, s, g, h => by
    unfold chkT at h
    split at h
    · exact PS.imp ps_break fun D σ H ⟨f, ss, rel, p⟩ => by unfold evT at p; exact p σ H f rfl rel (Le.refl _)
    · cases h
  | .cnt, X, Z, W, calm, s, g, h => by
    unfold chkT at h
    split at h
    · exact PS.imp ps_continue fun D σ H ⟨f, ss, rel, p⟩ => by unfold evT at p; exact p σ H f rfl rel (Le.refl _)
    · cases h
  | .rais c, X, Z, W, calm, s, g, h => by
    unfold chkT at h
    split at h
    · simp only [Bool.and_eq_true, decide_eq_true_eq] at h
      obtain ⟨⟨⟨hc, hg⟩, hok⟩, hx⟩ := h
      obtain ⟨C, h1, h2, h3, h4, h5, h6⟩ := g.exc _ hx
      refine PS.imp (ps_raise (g.g.calm hc).1 g.g.tk (pmk_own PySem.F.excBase_ValueError h3 h1 h4 (raises_own h5 h6) (glob_of hg) (okName_1 hok))) fun D σ H ⟨f, ss, rel, p⟩ => ?_
      unfold evT at p
      have q := p σ H f rfl rel (Le.refl _)
      rw [h2] at q
      exact q
    · cases h
  | .tr b hs, X, Z, W, calm, s, g, h => by
    unfold chkT at h
    split at h
    · rename_i x hh pos
      simp only [Bool.and_eq_true] at h
      obtain ⟨⟨⟨hc, hne⟩, hb⟩, hhs⟩ := h
      subst hc
      have hz := (g.g.calm rfl).2.2
      have B := fun (W' : WX) (pn : List (Addr × Obj)) (xe : Value → Shared → Prop) (tk : Takes (X.tr pn xe) W') (po : PassesOwn (model X.prog X.w) X.A X.env xe) => sndTs b (g.tr tk po hz) hb
      exact sndHs hs b g hz B hhs (by intro z; subst z; simp at hne)
    · cases h
theorem sndTs : ∀ (ts : List T) {X : Cx} {Z : Z0} {W : WX} {calm : Bool} {s : List Stmt}, GoodS X St Z W G sub k calm → chkTs St X.env.scope calm ts s = true → PSs X s (tF X.K Z W (evTs G sub fuel ts))
  | [], X, Z, W, calm, s, g, h => by
    unfold chkTs at h
    split at h
    · exact PSs.imp pss_nil fun D σ H ⟨f, ss, rel, p⟩ => by unfold evTs at p; exact p.nx rel
    · cases h
  | t :: ts, X, Z, W, calm, s, g, h => by
    by_cases hf : ∃ i, t = .frz i
    · obtain ⟨i, rfl⟩ := hf
      have h' : chkTs St X.env.scope calm ts s = true := by unfold chkTs at h; exact h
      refine PSs.imp (sndTs ts g h') fun D σ H ⟨f, ss, rel, p⟩ => ?_
      unfold evTs evT frzS at p
      cases hx : ss[i]? with
      | none => rw [hx] at p; exact (show False from p).elim
      | some z =>
        rw [hx] at p
        cases z with
        | own xs =>
          obtain ⟨f', sf, r', le⟩ := rel.frz hx
          exact ⟨f', _, r', PostF.grow (PostF.seq_nx p) le sf⟩
        | emp => exact ⟨f, ss, rel, PostF.seq_nx p⟩
        | val d => exact ⟨f, ss, rel, PostF.seq_nx p⟩
        | exc c => exact ⟨f, ss, rel, PostF.seq_nx p⟩
    by_cases hf2 : ∃ i, t = .bxs i
    · obtain ⟨i, rfl⟩ := hf2
      have h' : chkTs St X.env.scope calm ts s = true := by unfold chkTs at h; exact h
      refine PSs.imp (sndTs ts g h') fun D σ H ⟨f, ss, rel, p⟩ => ?_
      unfold evTs evT bxsS at p
      cases hx : ss[i]? with
      | none => rw [hx] at p; exact (show False from p).elim
      | some z =>
        rw [hx] at p
        cases z with
        | own xs =>
          obtain ⟨f', sf, r', le⟩ := rel.bxs hx
          have e : EV.F.seq ((newOb (.lst xs)).f ss fun d => EV.F.nx (ss.set i (.val d))) (evTs G sub fuel ts) f.st = evTs G sub fuel ts (ss.set i (.val (.obj f.st.length))) f'.st := by rw [sf]; rfl
          exact ⟨f', _, r', PostF.at p le e⟩
        | emp => exact (show False from p).elim
        | val d => exact (show False from p).elim
        | exc c => exact (show False from p).elim
    · have hcons : ∃ x xs, s = x :: xs ∧ chkT St X.env.scope calm t x = true ∧ chkTs St X.env.scope calm ts xs = true := by
        cases t <;> first
          | (exact absurd ⟨_, rfl⟩ hf)
          | (exact absurd ⟨_, rfl⟩ hf2)
          | (unfold chkTs at h
             split at h
             · simp only [Bool.and_eq_true] at h
               exact ⟨_, _, rfl, h.1, h.2⟩
             · cases h)
      obtain ⟨x, xs, rfl, h1, h2⟩ := hcons
      refine PSs.imp (pss_cons (sndTT t g h1) (sndTs ts g h2)) fun D σ H ⟨f, ss, rel, p⟩ => ⟨f, ss, rel, ?_⟩
      unfold evTs at p
      exact PostF.seq p fun σ' H' F' s r q p2 => ⟨F', s, r, p2⟩
theorem sndHs : ∀ (hs : List (List Nat × Option Nat × List T)) (b : List T) {X : Cx} {Z : Z0} {W : WX} {body : List Stmt} {hh : List ExceptHandler} {pos : Pos}, GoodS X St Z W G sub k true → Z.hx = none →
    (∀ (W' : WX) (pn : List (Addr × Obj)) (xe : Value → Shared → Prop), Takes (X.tr pn xe) W' → PassesOwn (model X.prog X.w) X.A X.env xe → PSs (X.tr pn xe) body (tF X.K Z W' (evTs G sub fuel b))) →
    chkHs St X.env.scope hs hh = true → hs ≠ [] → PS X (.Try body hh [] [] pos) (tF X.K Z W (evT G sub fuel (.tr b hs)))
  | [], b, X, Z, W, body, hh, pos, g, hz, B, h, hne => absurd rfl hne
  | (ks, none, sb) :: r, b, X, Z, W, body, hh, pos, g, hz, B, h, hne => by
    have hd := sndHd ((ks, none, sb) :: r) g hz h (headNone h)
    cases hh with
    | nil => simp [chkHs] at h
    | cons h0 hr =>
      refine PS.imp (ps_try_many (Wout := W) (tb := fun W' => tF X.K Z W' (evTs G sub fuel b)) g.st g.fr g.g.tk B hd) fun D σ H ⟨f, ss, rel, p⟩ => ⟨f, ss, rel, ?_⟩
      unfold evT at p
      exact PostF.tr p fun c s' σ' H' F' r q p2 => wMany_of g _ h (headNone h) σ' H' F' r p2
  | [(ks, some i, sb)], b, X, Z, W, body, hh, pos, g, hz, B, h, hne => by
    unfold chkHs at h
    split at h
    · rename_i cn pc n x xs hpos h'
      simp only [Bool.and_eq_true, decide_eq_true_eq] at h
      obtain ⟨⟨⟨⟨⟨hk, hg⟩, hok⟩, hn⟩, hsb⟩, hr⟩ := h
      cases n with
      | none => cases hn
      | some y =>
        simp only [Bool.and_eq_true, decide_eq_true_eq] at hn
        obtain ⟨⟨hN, hy⟩, hl⟩ := hn
        cases h' with
        | cons _ _ => cases hl
        | nil =>
          split at hk
          · rename_i kk
            have hx := of_decide_eq_true hk
            obtain ⟨C, hC, hcl⟩ := g.g.exn _ hx
            have hcl' : Z.cls kk = .ref C := hcl
            have suite : ∀ (a : Addr) (oe : Obj) (cls : Value) (d : Option Addr) (pn : List (Addr × Obj)), Zc cls d oe → (∃ vs, oe.data = .fields vs) → PSs (X.suite a ((a, oe) :: pn)) (x :: xs)
                (fun D σ H => ∃ c f ss, cls = Z.cls c ∧ d = none ∧ (∃ k b, sub c k = some b) ∧ Rel X.K (Zx Z a c i) f ss σ H ∧ PostF X.K (Zx Z a c i) W0 (evTs G sub fuel sb ss) f D) := by
              intro a oe cls d pn hzc hf
              refine ⟨fun pins s σ H D I q => ?_⟩
              obtain ⟨c, f, ss, rfl, rfl, hk, rel, p⟩ := q
              exact (sndTs sb (g.suite (i := i) hzc hf hk) hsb).run pins s σ H D I ⟨f, ss, rel, p⟩
            refine PS.imp (ps_try_as (Wout := W) (i := i) (tb := fun W' => tF X.K Z W' (evTs G sub fuel b)) g.st g.fr g.g.nd (by rw [g.g.N]; exact hN) hy ⟨glob_of hg, okName_1 hok, .inl hC⟩ g.g.tk B
              (fun a oe cls d pn hzc hf => suite a oe cls d pn hzc hf)) fun D σ H ⟨f, ss, rel, p⟩ => ⟨f, ss, rel, ?_⟩
            unfold evT at p
            refine PostF.tr p fun c s' σ' H' F' rl q p1 => ?_
            unfold evHs anyO at p1
            cases es : sub c kk with
            | none => rw [es] at p1; exact (show False from p1).elim
            | some t =>
              rw [es] at p1
              have hex := (g.g.subx c kk t es).1
              rw [hcl'] at hex
              refine ⟨t, hex, fun ht a na => ?_, fun ht => ?_⟩
              · subst ht
                dsimp only at p1
                by_cases hi : i < s'.length
                · rw [if_pos hi] at p1
                  refine ⟨c, F', s'.set i (.exc c), rfl, rfl, ⟨kk, true, es⟩, rl.toX hz, ?_⟩
                  unfold PostF EV.F.han at p1
                  unfold PostF
                  cases e2 : evTs G sub fuel sb (s'.set i (.exc c)) F'.st with
                  | nx s2 st => rw [e2] at p1; exact fun σ2 H2 F2 e3 r2 q2 => p1 _ H2 F2 e3 (Rel.ofX r2) q2
                  | ct s2 st => rw [e2] at p1; exact fun σ2 H2 F2 e3 r2 q2 => p1 _ H2 F2 e3 (Rel.ofX r2) q2
                  | bk s2 st => rw [e2] at p1; exact fun σ2 H2 F2 e3 r2 q2 => p1 _ H2 F2 e3 (Rel.ofX r2) q2
                  | rt r2 st => rw [e2] at p1; exact p1
                  | ex c2 s2 st => rw [e2] at p1; exact p1.elim
                  | bad => rw [e2] at p1; exact p1.elim
                · rw [if_neg hi] at p1; exact (show False from p1).elim
              · subst ht
                dsimp only [anyO] at p1
                unfold evHs at p1
                exact p1 σ' H' F' rfl rl (Le.refl _)
          · cases hk
    · cases h
  | (ks, some i, sb) :: h2 :: r, b, X, Z, W, body, hh, pos, g, hz, B, h, hne => by
    exfalso
    unfold chkHs at h
    split at h
    · rename_i cn pc n x xs hpos h'
      simp only [Bool.and_eq_true, decide_eq_true_eq] at h
      obtain ⟨⟨⟨⟨⟨hk, hg⟩, hok⟩, hn⟩, hsb⟩, hr⟩ := h
      cases n with
      | none => cases hn
      | some y =>
        simp only [Bool.and_eq_true, decide_eq_true_eq] at hn
        obtain ⟨⟨hN, hy⟩, hl⟩ := hn
        cases hl
    · cases h
theorem sndHd : ∀ (hs : List (List Nat × Option Nat × List T)) {X : Cx} {Z : Z0} {W : WX} {hh : List ExceptHandler}, GoodS X St Z W G sub k true → Z.hx = none → chkHs St X.env.scope hs hh = true → (hs.all fun h => h.2.1.isNone) = true →
    HdsOk X hh (lOf G sub fuel X.K Z hs)
  | [], X, Z, W, hh, g, hz, h, hn => by
    unfold chkHs at h
    split at h
    · exact .nil
    · cases h
  | (ks, o, sb) :: r, X, Z, W, hh, g, hz, h, hn => by
    unfold chkHs at h
    split at h
    · rename_i cn pc n x xs hpos h'
      simp only [Bool.and_eq_true, decide_eq_true_eq] at h
      obtain ⟨⟨⟨⟨⟨hk, hg⟩, hok⟩, hno⟩, hsb⟩, hr⟩ := h
      rw [List.all_cons, Bool.and_eq_true] at hn
      cases o with
      | some i => simp at hn
      | none =>
        cases n with
        | some y => cases hno
        | none =>
          split at hk
          · rename_i kk
            have hx := of_decide_eq_true hk
            obtain ⟨C, hC, hcl⟩ := g.g.exn _ hx
            have hcl' : Z.cls kk = .ref C := hcl
            unfold lOf
            refine .cons ⟨glob_of hg, okName_1 hok, .inl (by show X.mg cn = some (Z.cls kk); rw [hcl']; exact hC)⟩ (fun a oe cls d pn hzc hf => ?_) (sndHd r g hz hr hn.2)
            exact sndTs sb g.suite0 hsb
          · cases hk
    · cases h
end
end
end EV

set_option Elab.async false
set_option linter.all false
set_option autoImplicit false
set_option maxRecDepth 100000
set_option maxHeartbeats 16000000
/-! EwC3: defs and whole texts are what the evaluator says. -/
namespace EV
open PySem PySem.Spec PyProof.Rows L2
/-! ### what a def leaves in the store is dropped -/
section
variable {K : PySem.W.Frag}
mutual
theorem Rep.lowOf {F : Fz} : ∀ (d : D) (v : V), Rep K F d v → low F.al.length d = true
  | .non, _, _ => by unfold low; rfl
  | .bl _, _, _ => by unfold low; rfl
  | .int _, _, _ => by unfold low; rfl
  | .str _, _, _ => by unfold low; rfl
  | .tup xs, v, h => by
    unfold Rep at h
    obtain ⟨a, vs, e, q, r⟩ := h
    unfold low; exact Reps.lowOf xs vs r
  | .lst xs, v, h => by
    unfold Rep at h
    obtain ⟨a, vs, e, q, r⟩ := h
    unfold low; exact Reps.lowOf xs vs r
  | .scr xs, v, h => by
    unfold Rep at h
    obtain ⟨a, vs, e, q, r⟩ := h
    unfold low; exact Reps.lowOf xs vs r
  | .obj n, v, h => by
    unfold Rep at h
    obtain ⟨a, e, q⟩ := h
    unfold low
    exact decide_eq_true (List.getElem?_eq_some_iff.mp q).1
theorem Reps.lowOf {F : Fz} : ∀ (ds : List D) (vs : List V), Reps K F ds vs → lows F.al.length ds = true
  | [], _, _ => by unfold lows; rfl
  | d :: ds, vs, h => by
    unfold Reps at h
    obtain ⟨v, r, e, a, b⟩ := h
    unfold lows
    rw [Rep.lowOf d v a, Reps.lowOf ds r b]; rfl
end
mutual
theorem Rep.low {F F' : Fz} {n : Nat} (hs : Same F.h F'.h) (ha : ∀ (m : Nat) a, m < n → F.al[m]? = some a → F'.al[m]? = some a) : ∀ (d : D) (v : V), EV.low n d = true → Rep K F d v → Rep K F' d v
  | .non, _, _, h => h
  | .bl _, _, _, h => h
  | .int _, _, _, h => h
  | .str _, _, _, h => h
  | .tup xs, v, w, h => by
    unfold EV.low at w
    unfold Rep at h ⊢
    obtain ⟨a, vs, e, q, r⟩ := h
    exact ⟨a, vs, e, Same.seqT hs q, Reps.low hs ha xs vs w r⟩
  | .lst xs, v, w, h => by
    unfold EV.low at w
    unfold Rep at h ⊢
    obtain ⟨a, vs, e, q, r⟩ := h
    exact ⟨a, vs, e, hs _ _ q, Reps.low hs ha xs vs w r⟩
  | .scr xs, v, w, h => by
    unfold EV.low at w
    unfold Rep at h ⊢
    obtain ⟨a, vs, e, q, r⟩ := h
    exact ⟨a, vs, e, hs.seq q, Reps.low hs ha xs vs w r⟩
  | .obj m, v, w, h => by
    unfold EV.low at w
    unfold Rep at h ⊢
    obtain ⟨a, e, q⟩ := h
    exact ⟨a, e, ha m a (of_decide_eq_true w) q⟩
theorem Reps.low {F F' : Fz} {n : Nat} (hs : Same F.h F'.h) (ha : ∀ (m : Nat) a, m < n → F.al[m]? = some a → F'.al[m]? = some a) : ∀ (ds : List D) (vs : List V), lows n ds = true → Reps K F ds vs → Reps K F' ds vs
  | [], _, _, h => by unfold Reps at h ⊢; exact h
  | d :: ds, vs, w, h => by
    unfold lows at w
    rw [Bool.and_eq_true] at w
    unfold Reps at h ⊢
    obtain ⟨v, r, e, a, b⟩ := h
    exact ⟨v, r, e, Rep.low hs ha d v w.1 a, Reps.low hs ha ds r w.2 b⟩
end
theorem lows_mem {n : Nat} : ∀ {xs : List D} {d : D}, lows n xs = true → d ∈ xs → EV.low n d = true
  | [], d, _, h => by cases h
  | x :: xs, d, w, h => by
    unfold lows at w
    rw [Bool.and_eq_true] at w
    rcases List.mem_cons.mp h with rfl | h
    · exact w.1
    · exact lows_mem w.2 h
theorem paired_low {F : Fz} : ∀ {kvs : List (Str × D)} {ws : List (L2.Key × V)}, Paired (fun (p : Str × D) (q : L2.Key × V) => q.1 = Sum.inr p.1 ∧ Rep K F p.2 q.2) kvs ws → ∀ p ∈ kvs, EV.low F.al.length p.2 = true
  | _, _, .nil, p, hp => by cases hp
  | _, _, .cons r t, p, hp => by
    rcases List.mem_cons.mp hp with rfl | hp
    · exact Rep.lowOf _ _ r.2
    · exact paired_low t p hp
theorem paired_lowR {F F2 : Fz} {n : Nat} (l : ∀ d v, EV.low n d = true → Rep K F d v → Rep K F2 d v) : ∀ {kvs : List (Str × D)} {ws : List (L2.Key × V)}, (∀ p ∈ kvs, EV.low n p.2 = true) → Paired (fun (p : Str × D) (q : L2.Key × V) => q.1 = Sum.inr p.1 ∧ Rep K F p.2 q.2) kvs ws → Paired (fun (p : Str × D) (q : L2.Key × V) => q.1 = Sum.inr p.1 ∧ Rep K F2 p.2 q.2) kvs ws
  | _, _, _, .nil => .nil
  | _, _, w, .cons r t => .cons ⟨r.1, l _ _ (w _ List.mem_cons_self) r.2⟩ (paired_lowR l (fun p hp => w p (List.mem_cons_of_mem _ hp)) t)
theorem meltR_val {n : Nat} {st : Store} {d : D} {r' : R} (hd : ∀ m, d ≠ .obj m) (e : meltR n st (.val d) = some r') : EV.low n d = true ∧ r' = .val d := by
  have e' : (if EV.low n d then some (R.val d) else none) = some r' := by
    cases d <;> first | exact e | exact absurd rfl (hd _)
  by_cases w : EV.low n d = true
  · rw [if_pos w] at e'; cases e'; exact ⟨w, rfl⟩
  · rw [if_neg w] at e'; cases e'
open Classical in
noncomputable def dropH (F' : Fz) (H' : Hp) (n : Nat) (ex : Option Nat) : Hp := fun b => if ∃ (m : Nat) (xs : List D), n ≤ m ∧ ex ≠ some m ∧ F'.al[m]? = some b ∧ F'.st[m]? = some (.lst xs) ∧ lows n xs = true then H' b else F'.h b
theorem dropH_in {F' : Fz} {H' : Hp} {n : Nat} {ex : Option Nat} {b : Addr} (h : ∃ (m : Nat) (xs : List D), n ≤ m ∧ ex ≠ some m ∧ F'.al[m]? = some b ∧ F'.st[m]? = some (.lst xs) ∧ lows n xs = true) : dropH F' H' n ex b = H' b := by
  unfold dropH; exact if_pos h
theorem dropH_out {F' : Fz} {H' : Hp} {n : Nat} {ex : Option Nat} {b : Addr} (h : ¬ ∃ (m : Nat) (xs : List D), n ≤ m ∧ ex ≠ some m ∧ F'.al[m]? = some b ∧ F'.st[m]? = some (.lst xs) ∧ lows n xs = true) : dropH F' H' n ex b = F'.h b := by
  unfold dropH; exact if_neg h
theorem drop_ok {F F' : Fz} {H H' : Hp} (x : Ext K F H F' H') (tk : F'.st.take F.st.length = F.st) (ex : Option Nat) : ∃ F2, F2.st = F.st ∧ Ext K F H F2 H' ∧ (∀ d v, EV.low F.st.length d = true → Rep K F' d v → Rep K F2 d v) ∧ (∀ b, F'.fr b → F2.fr b) ∧
    (∀ (m : Nat) xs a vs, F.st.length ≤ m → ex ≠ some m → F'.al[m]? = some a → F'.st[m]? = some (.lst xs) → lows F.st.length xs = true → H' a = some (.lst vs) → F2.h a = some (.lst vs)) ∧ (∀ (m : Nat) a, ex = some m → F.st.length ≤ m → F'.al[m]? = some a → F2.fr a ∧ H a = none) := by
  have hn : F.al.length = F.st.length := x.ok0.len
  have notin : ∀ (i : Nat) a, i < F.st.length → F'.al[i]? = some a → ¬ ∃ (m : Nat) (xs : List D), F.st.length ≤ m ∧ ex ≠ some m ∧ F'.al[m]? = some a ∧ F'.st[m]? = some (.lst xs) ∧ lows F.st.length xs = true := by
    rintro i a hi ha ⟨m, xs, h1, _, h2, _⟩
    have := x.ok.inj i m a ha h2
    omega
  have same : Same F'.h (dropH F' H' F.st.length ex) := fun b o e => by
    rw [dropH_out]
    · exact e
    · rintro ⟨m, xs, _, _, h2, _⟩
      rw [x.ok.fz m b h2] at e; cases e
  have alAt : ∀ (m : Nat) a, m < F.st.length → F'.al[m]? = some a → F.al[m]? = some a := fun m a hm h => by
    have hl : m < F.al.length := by omega
    have e := List.getElem?_eq_getElem hl
    have e2 := x.le.al m _ e
    rw [h] at e2
    rw [e, Option.some.inj e2]
  have frOf : ∀ b, F'.fr b → dropH F' H' F.st.length ex b = none ∧ b ∉ F.al := fun b h => by
    refine ⟨?_, fun z => ?_⟩
    · rw [dropH_out]
      · exact h.1
      · rintro ⟨m, xs, _, _, h2, _⟩
        exact h.2 (List.mem_of_getElem? h2)
    · obtain ⟨i, hi⟩ := List.getElem?_of_mem z
      exact h.2 (List.mem_of_getElem? (x.le.al i b hi))
  have stAt : ∀ (i : Nat) o, F.st[i]? = some o → F'.st[i]? = some o := fun i o h => by
    have hi := (List.getElem?_eq_some_iff.mp h).1
    rw [← tk, List.getElem?_take_of_lt (by simpa using hi)] at h
    exact h
  let F2 : Fz := { h := dropH F' H' F.st.length ex, al := F.al, st := F.st, cl := F'.cl }
  have lowR : ∀ d v, EV.low F.st.length d = true → Rep K F' d v → Rep K F2 d v := fun d v w r => Rep.low (F' := F2) same alAt d v w r
  have lowRs : ∀ d v, lows F.st.length d = true → Reps K F' d v → Reps K F2 d v := fun d v w r => Reps.low (F' := F2) same alAt d v w r
  have ok2 : Ok K F2 H' := by
    refine ⟨fun b o e => ?_, x.ok0.inj, x.ok0.len, fun i a h => ?_, fun i o h => ?_⟩
    · by_cases q : ∃ (m : Nat) (xs : List D), F.st.length ≤ m ∧ ex ≠ some m ∧ F'.al[m]? = some b ∧ F'.st[m]? = some (.lst xs) ∧ lows F.st.length xs = true
      · have e' : dropH F' H' F.st.length ex b = some o := e
        rw [dropH_in q] at e'; exact e'
      · have e' : dropH F' H' F.st.length ex b = some o := e
        rw [dropH_out q] at e'; exact x.ok.sub b o e'
    · have hi : i < F.st.length := by rw [← hn]; exact (List.getElem?_eq_some_iff.mp h).1
      have h' := x.le.al i a h
      show dropH F' H' F.st.length ex a = none
      rw [dropH_out (notin i a hi h')]
      exact x.ok.fz i a h'
    · obtain ⟨a0, q1, q2⟩ := x.ok0.ob i o h
      have hi : i < F.st.length := (List.getElem?_eq_some_iff.mp h).1
      obtain ⟨a, q3, q4⟩ := x.ok.ob i o (stAt i o h)
      refine ⟨a, alAt i a hi q3, ?_⟩
      cases o with
      | lst xs =>
        obtain ⟨vs0, _, r0⟩ := q2
        obtain ⟨vs, e1, r1⟩ := q4
        exact ⟨vs, e1, lowRs _ _ (by rw [← hn]; exact Reps.lowOf _ _ r0) r1⟩
      | inst c fs =>
        obtain ⟨C0, ns0, dx0, kvs0, z1, _, f0⟩ := q2
        obtain ⟨C, ns, dx, kvs, y1, y2, f1⟩ := q4
        refine ⟨C, ns, dx, kvs, y1, y2, ⟨f1.nd, f1.len, f1.small, f1.cnt, fun k f d w1 w2 => ?_, f1.no, f1.out⟩⟩
        obtain ⟨v, w3, w4⟩ := f1.at_ k f d w1 w2
        refine ⟨v, w3, lowR _ _ ?_ w4⟩
        have hk : k < ns0.length := by rw [f0.len]; exact (List.getElem?_eq_some_iff.mp w2).1
        obtain ⟨v0, _, w6⟩ := f0.at_ k _ d (List.getElem?_eq_getElem hk) w2
        rw [← hn]; exact Rep.lowOf _ _ w6
      | dic kvs =>
        obtain ⟨ws0, _, p0⟩ := q2
        obtain ⟨ws, e1, p1⟩ := q4
        refine ⟨ws, e1, ?_⟩
        have lw : ∀ p ∈ kvs, EV.low F.st.length p.2 = true := by
          rw [← hn]
          exact paired_low p0
        exact paired_lowR lowR lw p1
  refine ⟨F2, rfl, ⟨x.sh, ⟨x.le.h.trans same, fun _ _ h => h, x.le.cl⟩, fun b o h1 h2 => frOf b (x.new b o h1 h2), x.ok0, ok2⟩, lowR, frOf, fun m xs a vs h1 h2 h3 h4 h5 h6 => ?_, fun m a h1 h2 h3 => ?_⟩
  · show dropH F' H' F.st.length ex a = _
    rw [dropH_in ⟨m, xs, h1, h2, h3, h4, h5⟩]; exact h6
  · have nal : a ∉ F.al := fun z => by
      obtain ⟨i, hi⟩ := List.getElem?_of_mem z
      have := x.ok.inj i m a (x.le.al i a hi) h3
      have := (List.getElem?_eq_some_iff.mp hi).1
      omega
    refine ⟨⟨?_, nal⟩, ?_⟩
    · show dropH F' H' F.st.length ex a = none
      rw [dropH_out]
      · exact x.ok.fz m a h3
      · rintro ⟨m', xs, _, q2, q3, _⟩
        have := x.ok.inj m m' a h3 q3
        subst this
        exact q2 h1
    · cases q : H a with
      | none => rfl
      | some o =>
        exfalso
        have hf : F.h a = none := by
          cases z : F.h a with
          | none => rfl
          | some u => have := x.le.h a u z; rw [x.ok.fz m a h3] at this; cases this
        exact (x.new a o ⟨hf, nal⟩ q).2 (List.mem_of_getElem? h3)
theorem meltDs_ok {F' F2 : Fz} {H' : Hp} {n : Nat} {ex : Option Nat} (ok : Ok K F' H') (l1 : ∀ d v, EV.low n d = true → Rep K F' d v → Rep K F2 d v)
    (l2 : ∀ (m : Nat) xs a vs, n ≤ m → ex ≠ some m → F'.al[m]? = some a → F'.st[m]? = some (.lst xs) → lows n xs = true → H' a = some (.lst vs) → F2.h a = some (.lst vs)) (l3 : ∀ xs vs, lows n xs = true → Reps K F' xs vs → Reps K F2 xs vs) :
    ∀ (ds : List D) (ds' : List D) (vs : List V), (∀ (m : Nat) xs, .obj m ∈ ds → F'.st[m]? = some (.lst xs) → lows n xs = true → ex ≠ some m) → meltDs n F'.st ds = some ds' → Reps K F' ds vs → Reps K F2 ds' vs
  | [], ds', vs, _, h, r => by
    unfold meltDs at h; cases h
    unfold Reps at r ⊢; exact r
  | d :: ds, ds', vs, hx, h, r => by
    unfold meltDs at h
    unfold Reps at r
    obtain ⟨v, ws, rfl, r1, r2⟩ := r
    cases e1 : meltD n F'.st d with
    | none => rw [e1] at h; cases h
    | some d' =>
      rw [e1] at h
      cases e2 : meltDs n F'.st ds with
      | none => rw [e2] at h; cases h
      | some ds2 =>
        rw [e2] at h; cases h
        refine Reps.cons ?_ (meltDs_ok ok l1 l2 l3 ds ds2 ws (fun m xs hm => hx m xs (List.mem_cons_of_mem _ hm)) e2 r2)
        have plain : ∀ {d : D}, (∀ m, d ≠ .obj m) → meltD n F'.st d = some d' → Rep K F' d v → Rep K F2 d' v := fun {d} hd e r => by
          have e' : (if EV.low n d then some d else none) = some d' := by
            cases d <;> first | exact e | exact absurd rfl (hd _)
          by_cases w : EV.low n d = true
          · rw [if_pos w] at e'; cases e'; exact l1 _ _ w r
          · rw [if_neg w] at e'; cases e'
        cases d with
        | obj m =>
          unfold meltD at e1
          dsimp only at e1
          by_cases hm : m < n
          · rw [if_pos hm] at e1; cases e1
            exact l1 _ _ (by unfold EV.low; exact decide_eq_true hm) r1
          · rw [if_neg hm] at e1
            cases eo : F'.st[m]? with
            | none => rw [eo] at e1; cases e1
            | some o =>
              rw [eo] at e1
              cases o with
              | lst xs =>
                dsimp only at e1
                by_cases w : lows n xs = true
                · rw [if_pos w] at e1; cases e1
                  obtain ⟨a, us, rfl, ha, h3, h4⟩ := ok.list eo r1
                  unfold Rep
                  exact ⟨a, us, rfl, l2 m xs a us (by omega) (hx m xs List.mem_cons_self eo w) ha eo w h3, l3 _ _ w h4⟩
                · rw [if_neg w] at e1; cases e1
              | inst _ _ => cases e1
              | dic _ => cases e1
        | _ => exact plain (fun m z => by cases z) e1 r1
/-- a def's value, without what the def has left in the store -/
theorem drop_R {F F' : Fz} {H H' : Hp} (x : Ext K F H F' H') (tk : F'.st.take F.st.length = F.st) {r r' : R} {v : V} (rv : RepR K H F' H' r v) (e : meltR F.st.length F'.st r = some r') : ∃ F2, F2.st = F.st ∧ Ext K F H F2 H' ∧ RepR K H F2 H' r' v := by
  cases r with
  | bor xs => cases e
  | own xs =>
    obtain ⟨F2, s2, x2, l1, l4, l2, l5⟩ := drop_ok x tk none
    obtain ⟨a, vs, rfl, h1, h2, h3, h4⟩ := rv
    unfold meltR at e
    dsimp only at e
    cases em : meltDs F.st.length F'.st xs with
    | none => rw [em] at e; cases e
    | some ys =>
      rw [em] at e; cases e
      refine ⟨F2, s2, x2, a, vs, rfl, h1, l4 a h2, h3, meltDs_ok (ex := none) x.ok l1 l2 (fun xs vs w r => ?_) xs ys vs (fun _ _ _ _ _ z => by cases z) em h4⟩
      exact repsOf l1 w r
  | val d =>
    by_cases ho : ∃ m, d = .obj m ∧ ¬ m < F.st.length
    · obtain ⟨m, rfl, hm⟩ := ho
      obtain ⟨F2, s2, x2, l1, l4, l2, l5⟩ := drop_ok x tk (some m)
      unfold meltR at e
      dsimp only at e
      rw [if_neg hm] at e
      cases eo : F'.st[m]? with
      | none => rw [eo] at e; cases e
      | some o =>
        rw [eo] at e
        cases o with
        | lst xs =>
          dsimp only at e
          cases em : meltDs F.st.length F'.st xs with
          | none => rw [em] at e; cases e
          | some ys =>
            rw [em] at e; cases e
            obtain ⟨a, us, rfl, ha, h3, h4⟩ := x.ok.list eo rv
            obtain ⟨f1, f2⟩ := l5 m a rfl (by omega) ha
            refine ⟨F2, s2, x2, a, us, rfl, h3, f1, f2, meltDs_ok (ex := some m) x.ok l1 l2 (fun xs vs w r => repsOf l1 w r) xs ys us (fun m' zs hm' e' w z => ?_) em h4⟩
            cases z
            rw [eo] at e'; cases e'
            have := lows_mem w hm'
            unfold EV.low at this
            exact hm (of_decide_eq_true this)
        | inst _ _ => cases e
        | dic _ => cases e
    · obtain ⟨F2, s2, x2, l1, l4, l2, l5⟩ := drop_ok x tk none
      have e' : EV.low F.st.length d = true ∧ r' = .val d := by
        by_cases hq : ∃ m, d = .obj m
        · obtain ⟨m, rfl⟩ := hq
          have hm : m < F.st.length := Classical.byContradiction fun z => ho ⟨m, rfl, z⟩
          unfold meltR at e
          dsimp only at e
          rw [if_pos hm] at e; cases e
          exact ⟨by unfold EV.low; exact decide_eq_true hm, rfl⟩
        · exact meltR_val (fun m z => hq ⟨m, z⟩) e
      obtain ⟨w, rfl⟩ := e'
      exact ⟨F2, s2, x2, l1 d v w rv⟩
where
  repsOf {F' F2 : Fz} {n : Nat} (l1 : ∀ d v, EV.low n d = true → Rep K F' d v → Rep K F2 d v) : ∀ {xs : List D} {vs : List V}, lows n xs = true → Reps K F' xs vs → Reps K F2 xs vs
    | [], vs, _, r => by unfold Reps at r ⊢; exact r
    | d :: ds, vs, w, r => by
      unfold lows at w
      rw [Bool.and_eq_true] at w
      unfold Reps at r
      obtain ⟨v, ws, rfl, r1, r2⟩ := r
      exact Reps.cons (l1 _ _ w.1 r1) (repsOf l1 w.2 r2)
end
end EV

set_option Elab.async false
set_option linter.all false
set_option autoImplicit false
set_option maxRecDepth 100000
set_option maxHeartbeats 16000000
/-! EwC4: defs and whole texts are what the evaluator says. -/
namespace EV
open PySem PySem.Spec PyProof.Rows L2
/-- what the written part says: names, constants, errors, classes -/
structure PF (K : PySem.W.Frag) (mg : Str → Option Value) (St : Stc) (sub : Sub) (cls : Nat → Value) (cl : Nat → Option (Addr × List Str)) : Prop where
  blt : ∀ x ∈ St.blts, mg x = none
  gl : ∀ p ∈ St.gls, ∃ u v, mg p.1 = some u ∧ L2.RelV v u ∧ ∀ F, Rep K F p.2 v
  exc : ∀ p ∈ St.exs, ∃ C, mg p.2 = some (.ref C) ∧ cls p.1 = .ref C ∧ PySem.W.excIn K C [.type "ValueError", .type "Exception", .type "BaseException", .type "object"] "ValueError.__new__" = true ∧ PySem.W.keepIn K (.ref C) = true ∧
    PySem.W.subIn K (.ref C) (.type "BaseException") = some true ∧ PySem.W.typeIn K (.ref C) = some (.type "type")
  subx : ∀ c k b, sub c k = some b → PySem.W.exmOne K (cls c) (cls k) = some b ∧ PySem.W.kitOne K (cls c) (cls k) = some b ∧ (k = 99 → cls k = .type "ValueError")
  exd : ∀ c k b, sub c k = some b → ∃ C, cls c = .ref C ∧ ExcC K C
  cs : ∀ p ∈ St.cs, ∃ C, cl p.1 = some (C, p.2.2) ∧ mg p.2.1 = some (.ref C) ∧ Cls K C ∧ (∀ f ∈ p.2.2, NoAttr K C f) ∧ PySem.W.makesIn K C = true ∧ PySem.W.keepIn K (.ref C) = true ∧ p.2.2.Nodup
/-- the defs that are there -/
def FnsOk (P : Program) (w : World) (K : PySem.W.Frag) (mg : Str → Option Value) (base : Heap) (fn : List (Nat × Str × Nat)) (ms : List (Nat × Nat × Str)) (cl : Nat → Option (Addr × List Str)) (cls : Nat → Value) (G : Env) (k : Nat) : Prop :=
  ∀ f g, G f = some g → ∃ ar fa fd ps, PySem.W.keepIn K (.ref fa) = true ∧ Binds K fd ps [] ∧ ps.length = ar ∧ (∀ ds st, g ds st ≠ .bad → ds.length = ar) ∧ FnOk P w K mg base (L2.CX P w) k fa fd ps (spF K cl cls ar g) ∧
    (∀ p ∈ fn, p.1 = f → mg p.2.1 = some (.ref fa)) ∧ (∀ p ∈ ms, p.1 = f → ∃ C ns, cl p.2.1 = some (C, ns) ∧ Meth K C p.2.2 fa ∧ p.2.2 ∉ ns)
section
variable {P : Program} {w : World} {K : PySem.W.Frag} {mg : Str → Option Value} {base : Heap} {St : Stc} {sub : Sub} {cls : Nat → Value} {cl : Nat → Option (Addr × List Str)} {G : Env} {k fuel : Nat}
theorem start_rel {F : Fz} {H : Hp} {N : List Str} {ds : List D} {vs : List V} (s : Ok K F H) (r : Reps K F ds vs) : Rel K ⟨F, H, cls, none⟩ F (startS N.length ds) (L2.start N vs) H := by
  have hl := r.length
  unfold startS L2.start
  have none_of : ∀ (i : Nat) x, (ds.map S.val ++ List.replicate (N.length - ds.length) S.emp)[i]? = some x → x = .emp ∨ ∃ d, ds[i]? = some d ∧ x = .val d := by
    intro i x h
    by_cases hi : i < ds.length
    · rw [List.getElem?_append_left (by simpa using hi), List.getElem?_map, List.getElem?_eq_getElem hi] at h
      cases h
      exact .inr ⟨ds[i], List.getElem?_eq_getElem hi, rfl⟩
    · rw [List.getElem?_append_right (by simp; omega)] at h
      have := List.getElem?_eq_some_iff.mp h
      obtain ⟨h1, h2⟩ := this
      rw [List.getElem_replicate] at h2
      exact .inl h2.symm
  exact
    { ext := Ext.refl s
      len := by simp [hl]
      val := fun i d h => by
        rcases none_of i _ h with e | ⟨d', h1, h2⟩
        · cases e
        · cases h2
          obtain ⟨v, h3, h4⟩ := r.get h1
          refine ⟨v, ?_, h4⟩
          have hi := (List.getElem?_eq_some_iff.mp h3).1
          rw [List.getElem?_append_left (by simpa using hi), List.getElem?_map, h3]
          rfl
      own := fun i xs h => by
        rcases none_of i _ h with e | ⟨d', h1, h2⟩
        · cases e
        · cases h2
      dis := fun i j xs ys a n h1 h2 h3 h4 => by
        rcases none_of i _ h1 with e | ⟨d', _, h2⟩
        · cases e
        · cases h2
      exc := fun i c h => by
        rcases none_of i _ h with e | ⟨d', h1, h2⟩
        · cases e
        · cases h2 }
/-- what is wanted of a def's value -/
def PostR (K : PySem.W.Frag) (cls : Nat → Value) (m : M R) (F : Fz) (H : Hp) (Q : VK) (E : XK) : Prop := match m F.st with
  | .ok r st => ∀ F' H', F'.st = st → Ext K F H F' H' → ∀ v, RepR K H F' H' r v → Q v H'
  | .ex c st => ∀ F' H', F'.st = st → Ext K F H F' H' → E (cls c) none H'
  | .bad => False
theorem postR_drop {m : M R} {F : Fz} {H : Hp} {Q : VK} {E : XK} (p : PostR K cls (dropM m) F H Q E) : PostR K cls m F H Q E := by
  unfold PostR dropM at p
  unfold PostR
  cases e : m F.st with
  | ok r st =>
    rw [e] at p
    dsimp only at p
    intro F' H' hs x v rv
    subst hs
    by_cases tk : F'.st.take F.st.length = F.st
    · rw [if_pos tk] at p
      cases em : meltR F.st.length F'.st r with
      | none => rw [em] at p; exact p.elim
      | some r' =>
        rw [em] at p
        obtain ⟨F2, s2, x2, r2⟩ := drop_R x tk rv em
        exact p F2 H' s2 x2 v r2
    · rw [if_neg tk] at p; exact p.elim
  | ex c st =>
    rw [e] at p
    dsimp only at p
    intro F' H' hs x
    subst hs
    by_cases tk : F'.st.take F.st.length = F.st
    · rw [if_pos tk] at p
      obtain ⟨F2, s2, x2, _⟩ := drop_ok x tk none
      exact p F2 H' s2 x2
    · rw [if_neg tk] at p; exact p.elim
  | bad => rw [e] at p; exact p.elim
/-- A DEF is what the evaluator says of its body -/
theorem fn_ok {x qual : Str} {st : Stmt} {f : Addr} {fd : FuncData} {ps : List Str} {fn : Fn} (pf : PF K mg St sub cls cl) (fo : FnsOk P w K mg base St.fn St.ms cl cls G k) (F : Fun K x qual st f fd) (S : FnScope St.N ps (defScope st))
    (har : fn.ar = ps.length) (hsl : fn.sl = St.N.length) (hchk : chkTs St (defScope st) true fn.body (defBody st) = true) : FnOk P w K mg base (L2.CX P w) (k + 2) f fd ps (spF K cl cls fn.ar (fn.run G sub fuel)) := by
  refine F.okX S (fun vs H Q E h => ?_) (fun cdv A outer s H vs Q E hr h => ?_)
  · obtain ⟨F, ds, _, _, r, hl, _⟩ := h
    rw [← r.length, hl, har]
  · obtain ⟨Fz, ds, sf, hcl, r, hl, hp⟩ := h
    have g : GoodS (cxOf (L2.CX P w) P w K mg base St.N qual (defScope st) f cdv A outer s H E) St ⟨Fz, H, cls, none⟩ (fun c d _ H => E c d H) G sub k true :=
      { g := ⟨rfl, S.nd, takes_of rfl rfl rfl rfl, fun _ => ⟨rfl, hr, rfl⟩, (by have := hr.un; show (A.deeper _).units + 65 < cLine; omega), (by subst hcl; exact fo), (by subst hcl; exact pf.cs), pf.blt, (fun p hp => by obtain ⟨C, h1, h2, _⟩ := pf.exc p hp; exact ⟨C, h1, h2⟩), pf.subx, (fun _ _ _ z => by cases z), pf.gl⟩
        po := fun _ => passes_of rfl
        st := rfl, fr := rfl, kd := S.kind, fn1 := fun _ => rfl, exc := pf.exc, exd := pf.exd }
    refine ⟨_, sndTs (fuel := fuel) fn.body g hchk, Fz, startS St.N.length ds, start_rel sf r, ?_⟩
    have hp1 : PostR K cls (fn.run G sub fuel ds) Fz H Q E := hp
    unfold Fn.run at hp1
    rw [if_pos hl, hsl] at hp1
    have hp2 : PostR K cls (evTs G sub fuel fn.body (startS St.N.length ds)).fin Fz H Q E := by
      cases hsc : fn.sc with
      | true => rw [hsc, if_pos rfl] at hp1; exact postR_drop hp1
      | false => rw [hsc, if_neg Bool.false_ne_true] at hp1; exact hp1
    unfold PostR EV.F.fin at hp2
    unfold PostF
    cases e : evTs G sub fuel fn.body (startS St.N.length ds) Fz.st with
    | nx ss st =>
      rw [e] at hp2
      exact fun σ' H' F' es r' q => hp2 F' H' es r'.ext .non (show Rep K F' .non .non from repNon)
    | rt rr st =>
      rw [e] at hp2
      intro v H' ⟨F', es, x, q, nb⟩
      cases rr with
      | val d => exact hp2 F' H' es x v q
      | own xs => exact hp2 F' H' es x v q
      | bor xs => exact nb.elim
    | ex c ss st =>
      rw [e] at hp2
      exact fun σ' H' F' es r' q => hp2 F' H' es r'.ext
    | bk ss st => rw [e] at hp2; exact hp2.elim
    | ct ss st => rw [e] at hp2; exact hp2.elim
    | bad => rw [e] at hp2; exact hp2.elim
end
def scB (N ps : List Str) (sc : Scope) : Bool :=
  (match sc.kind with | .function => true | _ => false) && !sc.isCoroutine && !sc.isGenerator && decide N.Nodup && decide (N.take ps.length = ps) && (ps.all fun x => loc sc x) && (sc.names.all fun y => match y.2 with | .free => false | _ => true)
theorem scB_ok {N ps : List Str} {sc : Scope} (h : scB N ps sc = true) : FnScope N ps sc := by
  unfold scB at h
  simp only [Bool.and_eq_true, decide_eq_true_eq, Bool.not_eq_true', List.all_eq_true] at h
  obtain ⟨⟨⟨⟨⟨⟨h1, h2⟩, h3⟩, h4⟩, h5⟩, h6⟩, h7⟩ := h
  refine ⟨?_, h2, h3, h4, h5, fun x hx => loc_of (h6 x hx), fun y hy z => ?_⟩
  · split at h1
    · assumption
    · cases h1
  · have := h7 y hy
    rw [z] at this
    cases this
/-- the looks at one def -/
def chkD (St : Stc) (d : Def) (st : Stmt) : Bool := scB d.N d.ps (defScope st) && chkTs { St with N := d.N } (defScope st) true d.body (defBody st)
/-- the tables tell the def by its number -/
def chkId (St : Stc) (d : Def) : Bool := (St.fn.all fun p => !(decide (p.1 = d.id)) || (d.mt.isNone && decide (p.2.1 = d.name))) && (St.ms.all fun p => !(decide (p.1 = d.id)) || (decide (d.mt.map (·.1) = some p.2.1) && decide (p.2.2 = d.name)))
section
variable {P : Program} {w : World} {K : PySem.W.Frag} {mg : Str → Option Value} {base : Heap} {St : Stc} {sub : Sub} {cls : Nat → Value} {cl : Nat → Option (Addr × List Str)} {fuel : Nat}
theorem PF.N {N : List Str} (h : PF K mg St sub cls cl) : PF K mg { St with N := N } sub cls cl := ⟨h.blt, h.gl, h.exc, h.subx, h.exd, h.cs⟩
theorem run_len {G : Env} {f : Fn} {ds : List D} {st : Store} (h : f.run G sub fuel ds st ≠ .bad) : ds.length = f.ar := by
  unfold Fn.run at h
  by_cases e : ds.length = f.ar
  · exact e
  · rw [if_neg e] at h; exact absurd rfl h
/-- what the top has left of a def -/
def DefAt (K : PySem.W.Frag) (mg : Str → Option Value) (cl : Nat → Option (Addr × List Str)) (d : Def) (st : Stmt) : Prop := ∃ fa fd, Binds K fd d.ps [] ∧ match d.mt with
  | none => mg d.name = some (.ref fa) ∧ Fun K d.name d.name st fa fd
  | some (c, q) => Fun K d.name q st fa fd ∧ ∃ C ns, cl c = some (C, ns) ∧ Meth K C d.name fa ∧ d.name ∉ ns
theorem text_ok (pf : PF K mg St sub cls cl) : ∀ (ds : List (Def × Stmt)), (∀ d ∈ ds, chkD St d.1 d.2 = true ∧ chkId St d.1 = true ∧ DefAt K mg cl d.1 d.2) → FnsOk P w K mg base St.fn St.ms cl cls (envOf sub fuel (ds.map (·.1))) (2 * ds.length)
  | [], _ => fun f g h => by
    simp [envOf] at h
  | (d, st) :: ds, h => by
    have ih := text_ok pf ds fun d hd => h d (List.mem_cons_of_mem _ hd)
    obtain ⟨hc, hm, fa, fd, h3, h4⟩ := h (d, st) List.mem_cons_self
    intro f g e
    simp only [List.map_cons, envOf] at e
    split at e
    · rename_i hf
      cases e
      unfold chkD at hc
      rw [Bool.and_eq_true] at hc
      unfold chkId at hm
      rw [Bool.and_eq_true, List.all_eq_true, List.all_eq_true] at hm
      obtain ⟨m1, m2⟩ := hm
      have key : ∀ qual, Fun K d.name qual st fa fd → FnOk P w K mg base (L2.CX P w) (2 * ds.length + 2) fa fd d.ps (spF K cl cls d.fn.ar (d.fn.run (envOf sub fuel (ds.map (·.1))) sub fuel)) := fun qual F => fn_ok (fn := d.fn) (fuel := fuel) (St := { St with N := d.N }) pf.N ih F (scB_ok hc.1) rfl rfl hc.2
      have e2 : 2 * (ds.length + 1) = 2 * ds.length + 2 := by omega
      rw [List.length_cons, e2]
      cases hmt : d.mt with
      | none =>
        rw [hmt] at h4
        refine ⟨d.ps.length, fa, fd, d.ps, h4.2.kp, h3, rfl, fun ds st h => run_len h, key _ h4.2, fun p hp hpf => ?_, fun p hp hpf => ?_⟩
        · have q := m1 p hp
          rw [Bool.or_eq_true, Bool.not_eq_true', decide_eq_false_iff_not, Bool.and_eq_true, decide_eq_true_eq] at q
          rcases q with q | q
          · exact absurd (hpf.trans hf) q
          · rw [q.2]; exact h4.1
        · have q := m2 p hp
          rw [Bool.or_eq_true, Bool.not_eq_true', decide_eq_false_iff_not, Bool.and_eq_true, decide_eq_true_eq, hmt] at q
          rcases q with q | q
          · exact absurd (hpf.trans hf) q
          · cases q.1
      | some cq =>
        obtain ⟨c, qual⟩ := cq
        rw [hmt] at h4
        obtain ⟨F, C, ns, z1, z2, z3⟩ := h4
        refine ⟨d.ps.length, fa, fd, d.ps, F.kp, h3, rfl, fun ds st h => run_len h, key _ F, fun p hp hpf => ?_, fun p hp hpf => ?_⟩
        · have q := m1 p hp
          rw [Bool.or_eq_true, Bool.not_eq_true', decide_eq_false_iff_not, Bool.and_eq_true, hmt] at q
          rcases q with q | q
          · exact absurd (hpf.trans hf) q
          · cases q.1
        · have q := m2 p hp
          rw [Bool.or_eq_true, Bool.not_eq_true', decide_eq_false_iff_not, Bool.and_eq_true, decide_eq_true_eq, decide_eq_true_eq, hmt] at q
          rcases q with q | q
          · exact absurd (hpf.trans hf) q
          · have e3 : c = p.2.1 := by have := q.1; simpa using this
            rw [← e3, q.2]
            exact ⟨C, ns, z1, z2, z3⟩
    · obtain ⟨ar, fa, fd, ps, q1, q2, q3, q4, q5, q6, q7⟩ := ih f g e
      exact ⟨ar, fa, fd, ps, q1, q2, q3, q4, q5.mono (by rw [List.length_cons]; omega), q6, q7⟩
/-- THE END: the law's own def -/
theorem law_ok (pf : PF K mg St sub cls cl) {d : Def} {st : Stmt} {ds : List (Def × Stmt)} {fa : Addr} {fd : FuncData} (h : ∀ d ∈ ds, chkD St d.1 d.2 = true ∧ chkId St d.1 = true ∧ DefAt K mg cl d.1 d.2)
    (hc : chkD St d st = true) (F : Fun K d.name d.name st fa fd) : FnOk P w K mg base (L2.CX P w) (2 * ds.length + 2) fa fd d.ps (spF K cl cls d.ps.length (d.fn.run (envOf sub fuel (ds.map (·.1))) sub fuel)) := by
  unfold chkD at hc
  rw [Bool.and_eq_true] at hc
  exact fn_ok (fn := d.fn) (fuel := fuel) (St := { St with N := d.N }) pf.N (text_ok pf ds h) F (scB_ok hc.1) rfl rfl hc.2
theorem cx_false {P : Program} {w : World} {H : Hp} {s : Shared} {e : Value} {s' : Shared} (h : L2.CX P w [] H s (fun _ _ _ => False) e s') : False := by
  obtain ⟨_, _, _, _, _, _, _, _, _, _, _, _, z⟩ := h
  exact z.elim
theorem kit_of_exm {K : PySem.W.Frag} {t c : Value} {b : Bool} (h : PySem.W.exmOne K t c = some b) (hs : PySem.W.exmOne K t t = some true) : PySem.W.kitOne K t c = some b := by
  by_cases e : t = c
  · subst e
    rw [hs] at h
    cases h
    unfold PySem.W.kitOne
    rw [if_pos (beq_self_eq_true t)]
  · have e' : (t == c) = false := by simpa using e
    unfold PySem.W.kitOne
    rw [e', if_neg Bool.false_ne_true]
    unfold PySem.W.exmOne at h
    split at h
    · exact h
    · cases h
theorem errs_of {K : PySem.W.Frag} {C D : Addr} {b : Bool} (h1 : PySem.W.subIn K (.ref C) (.type "BaseException") = some true) (h2 : PySem.W.hasDictIn K C = true) (h3 : PySem.W.typeIn K (.ref C) = some (.type "type")) (h4 : PySem.W.subIn K (.ref D) (.ref C) = some b)
    (g1 : PySem.W.subIn K (.ref D) (.type "BaseException") = some true) (g2 : PySem.W.hasDictIn K D = true) (g3 : PySem.W.typeIn K (.ref D) = some (.type "type")) (g4 : PySem.W.subIn K (.ref D) (.ref D) = some true) :
    PySem.W.exmOne K (.ref D) (.ref C) = some b ∧ PySem.W.kitOne K (.ref D) (.ref C) = some b := by
  have a := PySem.W.exm_ref (K := K) (C := C) (cls := .ref D) h1 h2 h3 h4
  exact ⟨a, kit_of_exm a (PySem.W.exm_ref (K := K) (C := D) (cls := .ref D) g1 g2 g3 g4)⟩
theorem errs_ofV {K : PySem.W.Frag} {D : Addr} (h : PySem.W.subIn K (.ref D) (.type "ValueError") = some true) : PySem.W.exmOne K (.ref D) (.type "ValueError") = some true ∧ PySem.W.kitOne K (.ref D) (.type "ValueError") = some true := by
  have e1 : (PySem.W.subIn K (.type "ValueError") (.type "BaseException") == some true) = true := by
    show ((PySem.fastBuiltinMro "ValueError").map (·.contains (.type "BaseException")) == some true) = true
    decide +kernel
  have e2 : PySem.W.kitMeta "ValueError" = true := by decide +kernel
  have e3 : PySem.W.kitCls K (.ref D) (.type "ValueError") = some true := by
    show (if PySem.W.kitMeta "ValueError" = true then PySem.W.subIn K (.ref D) (.type "ValueError") else none) = some true
    rw [if_pos e2]; exact h
  have e4 : ((Value.ref D) == (Value.type "ValueError")) = false := rfl
  refine ⟨?_, ?_⟩
  · unfold PySem.W.exmOne
    rw [if_pos e1]; exact e3
  · unfold PySem.W.kitOne
    rw [e4, if_neg Bool.false_ne_true]; exact e3
/-- the goal that k_head leaves, where the promise hangs on the written part alone -/
theorem walk_ofX {l : PySem.W.OpenLaw} {n k : Nat} {q : Program} {loose : List Str} {XP : (Str → Option Value) → Heap → Prop} {YP : World → Heap → Prop} {d : DefRec} {K : Params → PySem.W.Frag} {sp : PySem.W.Frag → Sp} {x : Str}
    (hn : l.most = some n) (hn2 : n ≤ sizeLine) (hdf : d.params.defaults = []) (hr : Room k callerA)
    (hY : ∀ (w : World) (h : Heap), YP w h → (K w.params).In h)
    (F : ∀ (w : World) (mg : Str → Option Value) (fa : Addr) (h : Heap), (K w.params).In h → h.Ns mainGlobals mg → mg d.name = some (.ref fa) →
      ∃ fd : FuncData, (∀ (s : Shared) (u : Value), BindsTo s fd ⟨[u], []⟩ [(x, u)]) ∧
        ∀ base : Heap, (K w.params).In base → base.Ns mainGlobals mg → FnOk l.prog w (K w.params) mg base (L2.CX l.prog w) k fa fd [x] (sp (K w.params)))
    (hsp : ∀ (K : PySem.W.Frag) (H : Hp) (a : Addr) (ns : List Int), ns.length ≤ n → SqL K H a (ns.map V.int) → sp K [.ref a] H (fun v _ => v = .bl true) fun _ _ _ => False) :
    PySem.W.WalkO q loose XP YP l.row.toRowW d [] (fun f vs => PySem.call f vs) :=
  L2.walk_of (l := l) (n := n) (k := k) (x := x) (CX := fun w => L2.CX l.prog w) (sp := fun w => sp (K w.params)) hn hn2 hdf hr hY F (fun w H a ns h1 _ h2 => hsp _ H a ns h1 h2) (fun _ _ _ _ _ h => cx_false h)
/-- a script -/
def scrOf (ns : List Int) : D := .scr (ns.map .int)
theorem reps_ints {F : Fz} : ∀ ns : List Int, Reps K F (ns.map D.int) (ns.map V.int)
  | [] => Reps.nil
  | n :: ns => Reps.cons repInt (reps_ints ns)
theorem law_sp {cl : Nat → Option (Addr × List Str)} {g : List D → M R} {H : Hp} {a : Addr} {ns : List Int} (hS : SqL K H a (ns.map V.int)) (h : ∃ st, g [scrOf ns] [] = .ok (.val (.bl true)) st) : spF K cl cls 1 g [.ref a] H (fun v _ => v = .bl true) fun _ _ _ => False := by
  obtain ⟨st, h⟩ := h
  have ok : Ok K ⟨H, [], [], cl⟩ H := ⟨Same.refl _, fun i j a h => by simp at h, rfl, fun n a h => by simp at h, fun n o h => by simp at h⟩
  refine ⟨⟨H, [], [], cl⟩, [scrOf ns], ok, rfl, Reps.cons ?_ Reps.nil, rfl, ?_⟩
  · unfold scrOf Rep
    exact ⟨a, ns.map V.int, rfl, hS, reps_ints ns⟩
  · dsimp only
    rw [h]
    intro F' H' hs x v q
    have q' : Rep K F' (.bl true) v := q
    unfold Rep at q'
    exact q'
end
end EV

set_option linter.all false
set_option autoImplicit false
namespace EV
/-! EwD1: sizes of numbers; what an Env has; the evaluator's rules, as rewriting wants them: loops stay shut. -/
/-- a has at most k binary figures -/
def Sz (a : Int) (k : Nat) : Prop := a.natAbs < 2 ^ k
namespace Sz
variable {a b : Int} {k m : Nat}
theorem mono (h : Sz a k) (hk : k ≤ m) : Sz a m := Nat.lt_of_lt_of_le h (Nat.pow_le_pow_right (by omega) hk)
theorem neg (h : Sz a k) : Sz (-a) k := by unfold Sz at *; rw [Int.natAbs_neg]; exact h
theorem abs (h : Sz a k) : Sz (a.natAbs : Int) k := by unfold Sz at *; simpa using h
theorem mul (h : Sz a k) (h' : Sz b m) : Sz (a * b) (k + m) := by
  unfold Sz at *
  rw [Int.natAbs_mul, Nat.pow_add]
  exact Nat.mul_lt_mul'' h h'
theorem add (h : Sz a k) (h' : Sz b k) : Sz (a + b) (k + 1) := by
  unfold Sz at *
  rw [Nat.pow_succ]; have := Int.natAbs_add_le a b; omega
theorem add' (h : Sz a k) (h' : Sz b m) : Sz (a + b) (max k m + 1) := add (mono h (Nat.le_max_left ..)) (mono h' (Nat.le_max_right ..))
theorem sub' (h : Sz a k) (h' : Sz b m) : Sz (a - b) (max k m + 1) := by rw [Int.sub_eq_add_neg]; exact add' h (neg h')
theorem emod (h : Sz b k) (hb : 0 < b) : Sz (a % b) k := by
  unfold Sz at *
  have h1 := Int.emod_nonneg a (Int.ne_of_gt hb)
  have h2 := Int.emod_lt_of_pos a hb
  omega
theorem ediv (h : Sz a k) : Sz (a / b) k := by
  unfold Sz at *
  exact Nat.lt_of_le_of_lt (Int.natAbs_ediv_le_natAbs a b) h
theorem log2 (h : Sz a k) : a.natAbs.log2 ≤ k := by
  unfold Sz at *
  by_cases h0 : a.natAbs = 0
  · rw [h0]; exact Nat.zero_le _
  · exact Nat.le_of_lt ((Nat.log2_lt h0).mpr h)
theorem of_lt {n : Nat} (h1 : 0 ≤ a) (h2 : a < (n : Int)) (h3 : n ≤ 2 ^ k) : Sz a k := by
  unfold Sz; omega
theorem gcd_left {x y : Int} (h : Sz x k) (hx : x ≠ 0) : Sz (Int.gcd x y) k := by
  unfold Sz at *
  have : Int.gcd x y ≤ x.natAbs := Nat.gcd_le_left _ (Int.natAbs_pos.mpr hx)
  simp only [Int.natAbs_natCast]
  omega
theorem gcd_right {x y : Int} (h : Sz y k) (hy : y ≠ 0) : Sz (Int.gcd x y) k := by
  rw [Int.gcd_comm]; exact gcd_left h hy
theorem gcd (h : Sz a k) (h' : Sz b m) : Sz (Int.gcd a b) (max k m) := by
  by_cases ha : a = 0
  · subst ha
    rw [Int.gcd_zero_left]; exact mono (abs h') (Nat.le_max_right ..)
  · exact mono (gcd_left h ha) (Nat.le_max_left ..)
end Sz
@[simp] theorem opD_add {i j : Int} : opD .Add (.int i) (.int j) = .ok (.val (.int (i + j))) := rfl
@[simp] theorem opD_sub {i j : Int} : opD .Sub (.int i) (.int j) = .ok (.val (.int (i - j))) := rfl
theorem opD_mul {i j : Int} (h : i.natAbs.log2 + j.natAbs.log2 < 1000000) : opD .Mult (.int i) (.int j) = .ok (.val (.int (i * j))) := by
  simp only [opD, guardM, mulB, h, decide_true, Bool.true_or, if_true]
theorem opD_mulR {i j : Int} (h : j.natAbs < 9223372036854775808) : opD .Mult (.int i) (.int j) = .ok (.val (.int (i * j))) := by
  simp only [opD, guardM, mulB, h, decide_true, Bool.or_true, if_true]
theorem opD_mulL {i j : Int} (h : i.natAbs < 9223372036854775808) : opD .Mult (.int i) (.int j) = .ok (.val (.int (i * j))) := by
  simp only [opD, guardM, mulB, h, decide_true, Bool.or_true, Bool.true_or, if_true]
theorem opD_mulS {i j : Int} {k m : Nat} (h : Sz i k) (h' : Sz j m) (hk : k + m < 1000000) : opD .Mult (.int i) (.int j) = .ok (.val (.int (i * j))) :=
  opD_mul (by have := h.log2; have := h'.log2; omega)
theorem opD_div {i j : Int} (h : 0 < j) (h2 : j.natAbs.log2 < 9000) : opD .FloorDiv (.int i) (.int j) = .ok (.val (.int (i / j))) := by
  simp only [opD, guardM, h, h2, decide_true, Bool.and_self, if_true]
theorem opD_divS {i j : Int} {k : Nat} (h : 0 < j) (h2 : Sz j k) (hk : k < 9000) : opD .FloorDiv (.int i) (.int j) = .ok (.val (.int (i / j))) :=
  opD_div h (by have := h2.log2; omega)
theorem opD_mod {i j : Int} (h : 0 < j) : opD .Mod (.int i) (.int j) = .ok (.val (.int (i % j))) := by
  simp only [opD, guardM, h, decide_true, if_true]
theorem abs_eq (i : Int) : (if i < 0 then -i else i) = (i.natAbs : Int) := by split <;> omega
@[simp] theorem deepM_ii {i j : Int} {b : Bool} : deepM (.int i) (.int j) b = .ok (.val (.bl b)) := by
  simp only [deepM, wf, Bool.and_self, guardM, if_true]
@[simp] theorem deepM_bb {i j : Bool} {b : Bool} : deepM (.bl i) (.bl j) b = .ok (.val (.bl b)) := by
  simp only [deepM, wf, Bool.and_self, guardM, if_true]
@[simp] theorem eqD_ii {i j : Int} : eqD (.int i) (.int j) = decide (i = j) := by
  rw [eqD]; exact Bool.beq_eq_decide_eq i j
@[simp] theorem eqD_bb {i j : Bool} : eqD (.bl i) (.bl j) = decide (i = j) := by
  rw [eqD]; exact Bool.beq_eq_decide_eq i j

/-! ### ends -/
@[simp] theorem M_bind_ok {α β : Type} (a : α) (f : α → M β) : M.bind (.ok a) f = f a := rfl
@[simp] theorem M_bind_ex {α β : Type} (c : Nat) (f : α → M β) : M.bind (.ex c) f = .ex c := rfl
@[simp] theorem M_bind_bad {α β : Type} (f : α → M β) : M.bind .bad f = .bad := rfl
/-- what goes on behind an end -/
def Out.bnd {α β : Type} (o : Out α) (f : α → M β) : Out β := match o with
  | .ok a st => f a st
  | .ex c st => .ex c st
  | .bad => .bad
@[simp] theorem bnd_ok {α β : Type} (a : α) (st : Store) (f : α → M β) : (Out.ok a st).bnd f = f a st := rfl
@[simp] theorem bnd_ex {α β : Type} (c : Nat) (st : Store) (f : α → M β) : (Out.ex c st : Out α).bnd f = .ex c st := rfl
@[simp] theorem bind_app {α β : Type} (m : M α) (f : α → M β) (st : Store) : M.bind m f st = (m st).bnd f := rfl
@[simp] theorem ok_app {α : Type} (a : α) (st : Store) : M.ok a st = .ok a st := rfl
@[simp] theorem ex_app {α : Type} (c : Nat) (st : Store) : (M.ex c : M α) st = .ex c st := rfl
@[simp] theorem bad_app {α : Type} (st : Store) : (M.bad : M α) st = .bad := rfl
@[simp] theorem get_app {α : Type} (f : Store → M α) (st : Store) : M.get f st = f st st := rfl
@[simp] theorem put_app (st st' : Store) : M.put st st' = .ok () st := rfl
@[simp] theorem ite_appM {α : Type} {c : Prop} [Decidable c] (a b : M α) (st : Store) : (if c then a else b) st = if c then a st else b st := by split <;> rfl
@[simp] theorem ite_appF {c : Prop} [Decidable c] (a b : F) (st : Store) : (if c then a else b) st = if c then a st else b st := by split <;> rfl
@[simp] theorem guardM_true {α : Type} (m : M α) : guardM true m = m := rfl
@[simp] theorem asBool_bl (b : Bool) : asBool (.val (.bl b)) = .ok b := rfl
@[simp] theorem asInt_int (b : Int) : asInt (.val (.int b)) = .ok b := rfl
@[simp] theorem ofO_some {α : Type} (a : α) : M.ofO (some a) = .ok a := rfl
@[simp] theorem Fix_val (d : D) : R.fix (.val d) = .ok d := rfl
@[simp] theorem Fix_own (d : List D) : R.fix (.own d) = .ok (.lst d) := rfl
@[simp] theorem View_val (d : D) : R.view (.val d) = d := rfl
@[simp] theorem View_own (d : List D) : R.view (.own d) = .lst d := rfl
@[simp] theorem View_bor (d : List D) : R.view (.bor d) = .lst d := rfl
@[simp] theorem fx_val (d : D) : R.fx (.val d) = true := rfl
@[simp] theorem fx_own (d : List D) : R.fx (.own d) = true := rfl
@[simp] theorem fx_bor (d : List D) : R.fx (.bor d) = false := rfl
@[simp] theorem callG_some (g : List D → M R) (ds : List D) : callG (some g) (.ok ds) = g ds := rfl
@[simp] theorem callG_someM (g : List D → M R) (m : M (List D)) : callG (some g) m = m.bind g := rfl
@[simp] theorem withG_some (g : List D → M R) (k : (List D → M R) → M R) : withG (some g) k = k g := rfl
@[simp] theorem FofO_some (ss : List S) : F.ofO (some ss) = .nx ss := rfl
@[simp] theorem M_f_ok {α : Type} (a : α) (ss : List S) (k : α → F) : M.f (.ok a) ss k = k a := rfl
@[simp] theorem M_f_ex {α : Type} (c : Nat) (ss : List S) (k : α → F) : M.f (.ex c : M α) ss k = .ex c ss := rfl
def Out.fo {α : Type} (o : Out α) (ss : List S) (k : α → F) : FO := match o with
  | .ok a st => k a st
  | .ex c st => .ex c ss st
  | .bad => .bad
@[simp] theorem fo_ok {α : Type} (a : α) (st : Store) (ss : List S) (k : α → F) : (Out.ok a st).fo ss k = k a st := rfl
@[simp] theorem fo_ex {α : Type} (c : Nat) (st : Store) (ss : List S) (k : α → F) : (Out.ex c st : Out α).fo ss k = .ex c ss st := rfl
@[simp] theorem f_app {α : Type} (m : M α) (ss : List S) (k : α → F) (st : Store) : M.f m ss k st = (m st).fo ss k := rfl
@[simp] theorem nx_app (s : List S) (st : Store) : F.nx s st = .nx s st := rfl
@[simp] theorem rt_app (s : R) (st : Store) : F.rt s st = .rt s st := rfl
@[simp] theorem bk_app (s : List S) (st : Store) : F.bk s st = .bk s st := rfl
@[simp] theorem ct_app (s : List S) (st : Store) : F.ct s st = .ct s st := rfl
@[simp] theorem fex_app (c : Nat) (s : List S) (st : Store) : F.ex c s st = .ex c s st := rfl
def FO.sq (o : FO) (k : List S → F) : FO := match o with
  | .nx s st => k s st
  | r => r
@[simp] theorem sq_nx (s : List S) (st : Store) (k : List S → F) : (FO.nx s st).sq k = k s st := rfl
@[simp] theorem sq_rt (r : R) (st : Store) (k : List S → F) : (FO.rt r st).sq k = .rt r st := rfl
@[simp] theorem sq_bk (s : List S) (st : Store) (k : List S → F) : (FO.bk s st).sq k = .bk s st := rfl
@[simp] theorem sq_ct (s : List S) (st : Store) (k : List S → F) : (FO.ct s st).sq k = .ct s st := rfl
@[simp] theorem sq_ex (c : Nat) (s : List S) (st : Store) (k : List S → F) : (FO.ex c s st).sq k = .ex c s st := rfl
@[simp] theorem seq_app (f : F) (k : List S → F) (st : Store) : F.seq f k st = (f st).sq k := by unfold F.seq FO.sq; cases f st <;> rfl
@[simp] theorem seq_nx (s : List S) (k : List S → F) : (F.nx s).seq k = k s := rfl
@[simp] theorem seq_rt (r : R) (k : List S → F) : (F.rt r).seq k = .rt r := rfl
@[simp] theorem seq_bk (s : List S) (k : List S → F) : (F.bk s).seq k = .bk s := rfl
@[simp] theorem seq_ct (s : List S) (k : List S → F) : (F.ct s).seq k = .ct s := rfl
@[simp] theorem seq_ex (c : Nat) (s : List S) (k : List S → F) : (F.ex c s).seq k = .ex c s := rfl
def FO.tr (o : FO) (k : Nat → List S → F) : FO := match o with
  | .ex c s st => k c s st
  | r => r
@[simp] theorem otr_nx (s : List S) (st : Store) (k : Nat → List S → F) : (FO.nx s st).tr k = .nx s st := rfl
@[simp] theorem otr_rt (s : R) (st : Store) (k : Nat → List S → F) : (FO.rt s st).tr k = .rt s st := rfl
@[simp] theorem otr_ex (c : Nat) (s : List S) (st : Store) (k : Nat → List S → F) : (FO.ex c s st).tr k = k c s st := rfl
@[simp] theorem otr_ct (s : List S) (st : Store) (k : Nat → List S → F) : (FO.ct s st).tr k = .ct s st := rfl
@[simp] theorem otr_bk (s : List S) (st : Store) (k : Nat → List S → F) : (FO.bk s st).tr k = .bk s st := rfl
@[simp] theorem tr_app (f : F) (k : Nat → List S → F) (st : Store) : F.tr f k st = (f st).tr k := by unfold F.tr FO.tr; cases f st <;> rfl
def FO.fin (o : FO) : Out R := match o with
  | .nx _ st => .ok (.val .non) st
  | .rt (.bor _) _ => .bad
  | .rt r st => .ok r st
  | .ex c _ st => .ex c st
  | _ => .bad
@[simp] theorem ofin_nx (s : List S) (st : Store) : (FO.nx s st).fin = .ok (.val .non) st := rfl
@[simp] theorem ofin_val (d : D) (st : Store) : (FO.rt (.val d) st).fin = .ok (.val d) st := rfl
@[simp] theorem ofin_own (d : List D) (st : Store) : (FO.rt (.own d) st).fin = .ok (.own d) st := rfl
@[simp] theorem ofin_ex (c : Nat) (s : List S) (st : Store) : (FO.ex c s st).fin = .ex c st := rfl
@[simp] theorem fin_app (f : F) (st : Store) : F.fin f st = (f st).fin := by
  unfold F.fin FO.fin
  cases f st with
  | rt r st' => cases r <;> rfl
  | _ => rfl
@[simp] theorem han_nx (s : List S) (st : Store) (i : Nat) (f : F) (h : f st = .nx s st) : f.han i st = .nx (s.set i .emp) st := by unfold F.han; rw [h]
def FO.hanO (o : FO) (i : Nat) : FO := match o with
  | .nx s st' => .nx (s.set i .emp) st'
  | .bk s st' => .bk (s.set i .emp) st'
  | .ct s st' => .ct (s.set i .emp) st'
  | .rt z st' => .rt z st'
  | _ => .bad
@[simp] theorem han_app (f : F) (i : Nat) (st : Store) : f.han i st = (f st).hanO i := by unfold F.han FO.hanO; cases f st <;> rfl
@[simp] theorem hanO_nx (s : List S) (st : Store) (i : Nat) : (FO.nx s st).hanO i = .nx (s.set i .emp) st := rfl
@[simp] theorem hanO_rt (s : R) (st : Store) (i : Nat) : (FO.rt s st).hanO i = .rt s st := rfl
@[simp] theorem hanO_bk (s : List S) (st : Store) (i : Nat) : (FO.bk s st).hanO i = .bk (s.set i .emp) st := rfl
@[simp] theorem hanO_ct (s : List S) (st : Store) (i : Nat) : (FO.ct s st).hanO i = .ct (s.set i .emp) st := rfl
def FO.haoO (o : FO) : FO := match o with
  | .ex _ _ _ => .bad
  | z => z
@[simp] theorem hao_app (f : F) (st : Store) : f.hao st = (f st).haoO := by unfold F.hao FO.haoO; cases f st <;> rfl
@[simp] theorem haoO_nx (s : List S) (st : Store) : (FO.nx s st).haoO = .nx s st := rfl
@[simp] theorem haoO_rt (s : R) (st : Store) : (FO.rt s st).haoO = .rt s st := rfl
@[simp] theorem haoO_ct (s : List S) (st : Store) : (FO.ct s st).haoO = .ct s st := rfl
@[simp] theorem haoO_bk (s : List S) (st : Store) : (FO.bk s st).haoO = .bk s st := rfl
/-! ### slots -/
def rdS (o : Option S) : M R := match o with
  | some (.val d) => .ok (.val d)
  | some (.own xs) => .ok (.bor xs)
  | _ => .bad
@[simp] theorem rdS_val (d : D) : rdS (some (.val d)) = .ok (.val d) := rfl
@[simp] theorem rdS_own (d : List D) : rdS (some (.own d)) = .ok (.bor d) := rfl
@[simp] theorem retS_val (d : D) : retS (some (.val d)) = .rt (.val d) := rfl
@[simp] theorem retS_own (d : List D) : retS (some (.own d)) = .rt (.own d) := rfl
@[simp] theorem rtR_val (d : D) : rtR (.val d) = .rt (.val d) := rfl
@[simp] theorem rtR_own (d : List D) : rtR (.own d) = .rt (.own d) := rfl
@[simp] theorem ownS_own (d : List D) (k : List D → F) : ownS (some (.own d)) k = k d := rfl
@[simp] theorem intS_int (d : Int) (k : Int → F) : intS (some (.val (.int d))) k = k d := rfl
@[simp] theorem intR_int (d : Int) (k : Int → F) : intR (.val (.int d)) k = k d := rfl
@[simp] theorem asgR_nm (i : Nat) (r : R) (ss : List S) : asgR (.nm i) r ss = putR i r ss := rfl
@[simp] theorem asgR_tup (ts : List Tg) (r : R) (ss : List S) : asgR (.tup ts) r ss = (r.fix).f ss fun d => (asg (.tup ts) d ss).f ss F.nx := rfl
def frzO (o : Option S) (i : Nat) (ss : List S) : F := match o with
  | some (.own xs) => .nx (ss.set i (.val (.lst xs)))
  | some _ => .nx ss
  | none => .bad
@[simp] theorem frzO_own (xs : List D) (i : Nat) (ss : List S) : frzO (some (.own xs)) i ss = .nx (ss.set i (.val (.lst xs))) := rfl
@[simp] theorem frzO_val (d : D) (i : Nat) (ss : List S) : frzO (some (.val d)) i ss = .nx ss := rfl
@[simp] theorem frzO_emp (i : Nat) (ss : List S) : frzO (some .emp) i ss = .nx ss := rfl
def bxsO (o : Option S) (i : Nat) (ss : List S) : F := match o with
  | some (.own xs) => (newOb (.lst xs)).f ss fun d => .nx (ss.set i (.val d))
  | _ => .bad
@[simp] theorem bxsO_own (xs : List D) (i : Nat) (ss : List S) : bxsO (some (.own xs)) i ss = (newOb (.lst xs)).f ss fun d => .nx (ss.set i (.val d)) := rfl
@[simp] theorem newOb_app (o : Ob) (st : Store) : newOb o st = .ok (.obj st.length) (st ++ [o]) := rfl
@[simp] theorem boxR_own (xs : List D) : boxR (.own xs) = (newOb (.lst xs)).bind fun d => .ok (.val d) := rfl
@[simp] theorem initR_non (o : D) : initR o (.val .non) = .ok (.val o) := rfl
def putS (r : R) (b : Bool) (i : Nat) (ss : List S) : F := if b then (match r with
  | .val d => .nx (ss.set i (.val d))
  | .own xs => .nx (ss.set i (.own xs))
  | .bor _ => .bad) else .bad
@[simp] theorem putS_val (d : D) (i : Nat) (ss : List S) : putS (.val d) true i ss = .nx (ss.set i (.val d)) := rfl
@[simp] theorem putS_own (d : List D) (i : Nat) (ss : List S) : putS (.own d) true i ss = .nx (ss.set i (.own d)) := rfl
@[simp] theorem putR_eq (r : R) (i : Nat) (ss : List S) : putR i r ss = putS r (decide (i < ss.length)) i ss := by
  unfold putR putS; by_cases h : i < ss.length <;> simp only [h, decide_true, decide_false, if_true, if_false] <;> cases r <;> rfl
@[simp] theorem asg_nm (i : Nat) (d : D) (ss : List S) : asg (.nm i) d ss = if i < ss.length then .ok (ss.set i (.val d)) else .bad := by rw [asg]
@[simp] theorem asg_fl (i c k : Nat) (d : D) (ss : List S) : asg (.fl i c k) d ss = M.valO ss[i]? fun o => (setFld o c k d).bind fun _ => .ok ss := by rw [asg]
@[simp] theorem valO_val {α : Type} (d : D) (k : D → M α) : M.valO (some (.val d)) k = k d := rfl
@[simp] theorem asg_tup (ts : List Tg) (ds : List D) (ss : List S) : asg (.tup ts) (.tup ds) ss = asgs ts ds ss := by rw [asg]
@[simp] theorem asg_lst (ts : List Tg) (ds : List D) (ss : List S) : asg (.tup ts) (.lst ds) ss = asgs ts ds ss := by rw [asg]
@[simp] theorem asgs_nil (ss : List S) : asgs [] [] ss = .ok ss := by rw [asgs]
@[simp] theorem asgs_cons (t : Tg) (ts : List Tg) (d : D) (ds : List D) (ss : List S) : asgs (t :: ts) (d :: ds) ss = (asg t d ss).bind fun ss' => asgs ts ds ss' := by rw [asgs]
@[simp] theorem setAll_nil (ss : List S) : setAll [] [] ss = some ss := rfl
@[simp] theorem setAll_cons (i : Nat) (is : List Nat) (d : D) (ds : List D) (ss : List S) : setAll (i :: is) (d :: ds) ss = if i < ss.length then (setAll is ds ss).map fun s' => s'.set i (.val d) else none := rfl
section
variable {G : Env} {sub : Sub}
def isiR (t : Ty) (x : R) : M R := match x with
    | .val (.obj _) => .bad
    | x => .ok (.val (.bl (isTy t x.view)))
@[simp] theorem isiR_non (t : Ty) : isiR t (.val .non) = .ok (.val (.bl (isTy t .non))) := rfl
@[simp] theorem isiR_int (t : Ty) (i : Int) : isiR t (.val (.int i)) = .ok (.val (.bl (isTy t (.int i)))) := rfl
@[simp] theorem isiR_bl (t : Ty) (i : Bool) : isiR t (.val (.bl i)) = .ok (.val (.bl (isTy t (.bl i)))) := rfl
@[simp] theorem isiR_str (t : Ty) (i : PySem.Str) : isiR t (.val (.str i)) = .ok (.val (.bl (isTy t (.str i)))) := rfl
@[simp] theorem isiR_tup (t : Ty) (i : List D) : isiR t (.val (.tup i)) = .ok (.val (.bl (isTy t (.tup i)))) := rfl
@[simp] theorem isiR_lst (t : Ty) (i : List D) : isiR t (.val (.lst i)) = .ok (.val (.bl (isTy t (.lst i)))) := rfl
@[simp] theorem isiR_own (t : Ty) (i : List D) : isiR t (.own i) = .ok (.val (.bl (isTy t (.lst i)))) := rfl
@[simp] theorem isiR_bor (t : Ty) (i : List D) : isiR t (.bor i) = .ok (.val (.bl (isTy t (.lst i)))) := rfl
@[simp] theorem evE_var (i : Nat) (ss : List S) : evE G sub (.var i) ss = rdS ss[i]? := by rw [evE]; rfl
@[simp] theorem evE_k (d : D) (ss : List S) : evE G sub (.k d) ss = .ok (.val d) := by rw [evE]
@[simp] theorem evE_gl (x : String) (d : D) (ss : List S) : evE G sub (.gl x d) ss = .ok (.val d) := by rw [evE]
@[simp] theorem evE_tup (es : List E) (ss : List S) : evE G sub (.tup es) ss = (evF G sub es ss).bind fun ds => guardM (decide (ds.length ≤ 16777216)) (.ok (.val (.tup ds))) := by rw [evE]
@[simp] theorem evE_lst (es : List E) (ss : List S) : evE G sub (.lst es) ss = (evF G sub es ss).bind fun ds => guardM (decide (ds.length ≤ 16777216)) (.ok (.own ds)) := by rw [evE]
@[simp] theorem evE_op (o : PySem.Operator) (a b : E) (ss : List S) : evE G sub (.op o a b) ss = (evE G sub a ss).bind fun x => (evE G sub b ss).bind fun y => opD o x.view y.view := by rw [evE]
@[simp] theorem evE_neg (a : E) (ss : List S) : evE G sub (.neg a) ss = (evE G sub a ss).bind fun x => (asInt x).bind fun i => .ok (.val (.int (-i))) := by rw [evE]
@[simp] theorem evE_not (a : E) (ss : List S) : evE G sub (.not a) ss = (evE G sub a ss).bind fun x => (asBool x).bind fun b => .ok (.val (.bl (!b))) := by rw [evE]
@[simp] theorem evE_cmp (o : PySem.CmpOp) (a b : E) (ss : List S) : evE G sub (.cmp o a b) ss = (evE G sub a ss).bind fun x => (evE G sub b ss).bind fun y => cmpD o x.view y.view := by rw [evE]
@[simp] theorem evE_chain (o p : PySem.CmpOp) (a b c : E) (ss : List S) : evE G sub (.chain o p a b c) ss = (evE G sub a ss).bind fun x => (evE G sub b ss).bind fun y => (cmpD o x.view y.view).bind fun z => (asBool z).bind fun t =>
      if t then (evE G sub c ss).bind fun w => cmpD p y.view w.view else .ok (.val (.bl false)) := by rw [evE]
@[simp] theorem evE_and (a b : E) (ss : List S) : evE G sub (.and a b) ss = (evE G sub a ss).bind fun x => (asBool x).bind fun t => if t then evE G sub b ss else .ok (.val (.bl false)) := by rw [evE]
@[simp] theorem evE_or (a b : E) (ss : List S) : evE G sub (.or a b) ss = (evE G sub a ss).bind fun x => (asBool x).bind fun t => if t then .ok (.val (.bl true)) else evE G sub b ss := by rw [evE]
@[simp] theorem evE_one (a : E) (ss : List S) : evE G sub (.one a) ss = evE G sub a ss := by rw [evE]
@[simp] theorem evE_ite (c a b : E) (ss : List S) : evE G sub (.ite c a b) ss = (evE G sub c ss).bind fun x => (asBool x).bind fun t => if t then evE G sub a ss else evE G sub b ss := by rw [evE]
@[simp] theorem evE_call (f : Nat) (es : List E) (ss : List S) : evE G sub (.call f es) ss = callG (G f) (evF G sub es ss) := by rw [evE]
@[simp] theorem evE_blt (f : B) (es : List E) (ss : List S) : evE G sub (.blt f es) ss = (evs G sub es ss).bind fun rs => bltD f (rs.map R.view) := by rw [evE]
@[simp] theorem evE_ix (a i : E) (ss : List S) : evE G sub (.ix a i) ss = (evE G sub a ss).bind fun x => (evE G sub i ss).bind fun y => ixD x.view y.view := by rw [evE]
@[simp] theorem evE_sl (a : E) (lo hi : Option E) (ss : List S) : evE G sub (.sl a lo hi) ss = (evE G sub a ss).bind fun x => (evO G sub lo ss).bind fun l => (evO G sub hi ss).bind fun h => slD x.view l h := by rw [evE]
@[simp] theorem evE_isi (a : E) (t : Ty) (ss : List S) : evE G sub (.isi a t) ss = (evE G sub a ss).bind (isiR t) := by rw [evE]; rfl
def isxS (sub : Sub) (o : Option S) (cs : List Nat) : M R := match o with
    | some (.exc c) => (match anyO sub c cs with
      | some b => .ok (.val (.bl b))
      | none => .bad)
    | _ => .bad
@[simp] theorem evE_isx (i : Nat) (cs : List Nat) (ss : List S) : evE G sub (.isx i cs) ss = isxS sub ss[i]? cs := by rw [evE]; rfl
@[simp] theorem isxS_exc (c : Nat) (cs : List Nat) : isxS sub (some (.exc c)) cs = match anyO sub c cs with
      | some b => .ok (.val (.bl b))
      | none => .bad := rfl
/-- one step of a comprehension -/
noncomputable def lcF (G : Env) (sub : Sub) (vs : List Nat) (tg : Tg) (c : Option E) (e : E) (ss : List S) (d : D) : M (Option D) := (asg tg d (wipe ss vs)).bind fun ss' => (evC G sub c ss').bind fun b => if b then (evE G sub e ss').bind fun r => (r.fix).bind fun y => .ok (some y) else .ok none
noncomputable def lcE (G : Env) (sub : Sub) (vs : List Nat) (tg : Tg) (c : Option E) (e : E) (ss : List S) (gd : Gd) (ds : List D) : M (List D) := M.calm (lcG gd (lcF G sub vs tg c e ss) ds)
@[simp] theorem evE_lc (vs : List Nat) (tg : Tg) (it : I) (c : Option E) (e : E) (ss : List S) : evE G sub (.lc vs tg it c e) ss = (evI G sub it ss).bind fun its => guardM (decide (its.ds.length ≤ 16777216)) ((lcE G sub vs tg c e ss its.gd its.ds).bind fun ys => .ok (.own ys)) := by rw [evE]; rfl
@[simp] theorem evE_box (a : E) (ss : List S) : evE G sub (.box a) ss = (evE G sub a ss).bind boxR := by rw [evE]
@[simp] theorem evE_fld (c k : Nat) (a : E) (ss : List S) : evE G sub (.fld c k a) ss = (evE G sub a ss).bind fun x => getFld x.view c k := by rw [evE]
@[simp] theorem evE_new (c f n : Nat) (es : List E) (ss : List S) : evE G sub (.new c f n es) ss = withG (G f) fun g => (evF G sub es ss).bind fun ds => (newOb (.inst c (List.replicate n none))).bind fun o => (g (o :: ds)).bind (initR o) := by rw [evE]
@[simp] theorem evE_mth (c f : Nat) (a : E) (es : List E) (ss : List S) : evE G sub (.mth c f a es) ss = withG (G f) fun g => (evE G sub a ss).bind fun x => (isInst x.view c).bind fun _ => (evF G sub es ss).bind fun ds => g (x.view :: ds) := by rw [evE]
@[simp] theorem evE_ixr (a i : E) (ss : List S) : evE G sub (.ixr a i) ss = (evE G sub a ss).bind fun x => (evE G sub i ss).bind fun y => x.der.bind fun d => ixD d y.view := by rw [evE]
@[simp] theorem evE_slr (a : E) (lo hi : Option E) (ss : List S) : evE G sub (.slr a lo hi) ss = (evE G sub a ss).bind fun x => (evO G sub lo ss).bind fun l => (evO G sub hi ss).bind fun h => x.der.bind fun d => slD d l h := by rw [evE]
@[simp] theorem evE_cmpr (o : PySem.CmpOp) (a b : E) (ss : List S) : evE G sub (.cmpr o a b) ss = (evE G sub a ss).bind fun x => (evE G sub b ss).bind fun y => x.der.bind fun d => y.der.bind fun e => cmpD o d e := by rw [evE]
def derL (f : B) (rs : List R) : M R := match rs with
    | [r] => r.der.bind fun d => bltD f [d]
    | _ => .bad
@[simp] theorem derL_1 (f : B) (r : R) : derL f [r] = r.der.bind fun d => bltD f [d] := rfl
@[simp] theorem evE_bltr (f : B) (es : List E) (ss : List S) : evE G sub (.bltr f es) ss = (evs G sub es ss).bind (derL f) := by rw [evE]; rfl
@[simp] theorem evC_none (ss : List S) : evC G sub none ss = .ok true := by rw [evC]
@[simp] theorem evC_some (c : E) (ss : List S) : evC G sub (some c) ss = (evE G sub c ss).bind asBool := by rw [evC]
@[simp] theorem evO_none (ss : List S) : evO G sub none ss = .ok none := by rw [evO]
@[simp] theorem evO_some (c : E) (ss : List S) : evO G sub (some c) ss = (evE G sub c ss).bind fun x => (asInt x).bind fun i => .ok (some i) := by rw [evO]
@[simp] theorem evs_nil (ss : List S) : evs G sub [] ss = .ok [] := by rw [evs]
@[simp] theorem evs_cons (e : E) (es : List E) (ss : List S) : evs G sub (e :: es) ss = (evE G sub e ss).bind fun x => (evs G sub es ss).bind fun xs => .ok (x :: xs) := by rw [evs]
@[simp] theorem evF_nil (ss : List S) : evF G sub [] ss = .ok [] := by rw [evF]
@[simp] theorem evF_cons (e : E) (es : List E) (ss : List S) : evF G sub (e :: es) ss = (evE G sub e ss).bind fun r => (r.fix).bind fun x => (evF G sub es ss).bind fun xs => .ok (x :: xs) := by rw [evF]
@[simp] theorem itD_lst (xs : List D) (b : Bool) : itD (.lst xs) b = .ok ⟨xs, [], b⟩ := rfl
@[simp] theorem itD_tup (xs : List D) (b : Bool) : itD (.tup xs) b = .ok ⟨xs, [], b⟩ := rfl
@[simp] theorem itD_scr (xs : List D) (b : Bool) : itD (.scr xs) b = .ok ⟨xs, [], b⟩ := rfl
@[simp] theorem itD_str (z : PySem.Str) (b : Bool) : itD (.str z) b = .ok ⟨z.cps.toList.map fun c => .str ⟨#[c]⟩, [], b⟩ := rfl
@[simp] theorem evI_seq (e : E) (ss : List S) : evI G sub (.seq e) ss = (evE G sub e ss).bind fun x => itD x.view x.fx := by rw [evI]
@[simp] theorem rngD_1 (j : Int) : rngD [.int j] = guardM (small j) (.ok ⟨rngL 0 j, [], true⟩) := rfl
@[simp] theorem rngD_2 (i j : Int) : rngD [.int i, .int j] = guardM (small i && small j) (.ok ⟨rngL i j, [], true⟩) := rfl
@[simp] theorem evI_rng (es : List E) (ss : List S) : evI G sub (.rng es) ss = (evF G sub es ss).bind rngD := by rw [evI]
@[simp] theorem enumD_tup (xs : List D) (b : Bool) : enumD (.tup xs) b = .ok ⟨enumL 0 xs, [], b⟩ := rfl
@[simp] theorem enumD_lst (xs : List D) (b : Bool) : enumD (.lst xs) b = .ok ⟨enumL 0 xs, [], b⟩ := rfl
@[simp] theorem evI_enum (e : E) (ss : List S) : evI G sub (.enum e) ss = (evE G sub e ss).bind fun x => enumD x.view x.fx := by rw [evI]
@[simp] theorem zipD_lst (xs ys : List D) (b : Bool) : zipD (.lst xs) (.lst ys) b = .ok ⟨zipL xs ys, [], b⟩ := rfl
@[simp] theorem zipD_tup (xs ys : List D) (b : Bool) : zipD (.tup xs) (.tup ys) b = .ok ⟨zipL xs ys, [], b⟩ := rfl
@[simp] theorem evI_zip (a b : E) (ss : List S) : evI G sub (.zip a b) ss = (evE G sub a ss).bind fun x => (evE G sub b ss).bind fun y => zipD x.view y.view (x.fx && y.fx) := by rw [evI]
@[simp] theorem evI_seqr (e : E) (ss : List S) : evI G sub (.seqr e) ss = (evE G sub e ss).bind fun x => x.lstr.bind fun p => .ok ⟨p.1, p.2, x.fx⟩ := by rw [evI]
@[simp] theorem evI_enumr (e : E) (ss : List S) : evI G sub (.enumr e) ss = (evE G sub e ss).bind fun x => x.lstr.bind fun p => .ok ⟨enumL 0 p.1, p.2, x.fx⟩ := by rw [evI]
@[simp] theorem evI_zipr (a b : E) (ss : List S) : evI G sub (.zipr a b) ss = (evE G sub a ss).bind fun x => (evE G sub b ss).bind fun y => x.lstr.bind fun p => y.lstr.bind fun q => .ok ⟨zipL p.1 q.1, p.2 ++ q.2, x.fx && y.fx⟩ := by rw [evI]
@[simp] theorem lstr_lst (xs : List D) : R.lstr (.val (.lst xs)) = .ok (xs, []) := rfl
@[simp] theorem lstr_own (xs : List D) : R.lstr (.own xs) = .ok (xs, []) := rfl
@[simp] theorem lstr_bor (xs : List D) : R.lstr (.bor xs) = .ok (xs, []) := rfl
theorem lstr_obj {n : Nat} {st : Store} {xs : List D} (h : st[n]? = some (.lst xs)) : R.lstr (.val (.obj n)) st = .ok (xs, [(n, xs)]) st := by
  unfold R.lstr M.get; dsimp only; rw [h]; rfl
theorem der_lst {n : Nat} {st : Store} {xs : List D} (h : st[n]? = some (.lst xs)) : R.der (.val (.obj n)) st = .ok (.lst xs) st := by
  unfold R.der M.get; dsimp only; rw [h]; rfl
@[simp] theorem der_own (xs : List D) : R.der (.own xs) = .ok (.lst xs) := rfl
@[simp] theorem der_bor (xs : List D) : R.der (.bor xs) = .ok (.lst xs) := rfl
@[simp] theorem der_vlst (xs : List D) : R.der (.val (.lst xs)) = .ok (.lst xs) := rfl
@[simp] theorem der_vtup (xs : List D) : R.der (.val (.tup xs)) = .ok (.tup xs) := rfl
@[simp] theorem der_vint (xs : Int) : R.der (.val (.int xs)) = .ok (.int xs) := rfl
@[simp] theorem der_vstr (xs : PySem.Str) : R.der (.val (.str xs)) = .ok (.str xs) := rfl
@[simp] theorem der_vbl (xs : Bool) : R.der (.val (.bl xs)) = .ok (.bl xs) := rfl
@[simp] theorem der_vnon : R.der (.val .non) = .ok .non := rfl
theorem getFld_at {n c k : Nat} {st : Store} {fs : List (Option D)} {v : D} (h : st[n]? = some (.inst c fs)) (h2 : fs[k]? = some (some v)) : getFld (.obj n) c k st = .ok (.val v) st := by
  unfold getFld M.get; dsimp only; rw [h]; dsimp only; rw [if_pos rfl, h2]; rfl
theorem setFld_at {n c k : Nat} {st : Store} {fs : List (Option D)} {v : D} (h : st[n]? = some (.inst c fs)) (h2 : k < fs.length) : setFld (.obj n) c k v st = .ok () (st.set n (.inst c (fs.set k (some v)))) := by
  unfold setFld M.get; dsimp only; rw [h]; dsimp only; rw [if_pos ⟨rfl, h2⟩]; rfl
theorem isInst_at {n c : Nat} {st : Store} {fs : List (Option D)} (h : st[n]? = some (.inst c fs)) : isInst (.obj n) c st = .ok () st := by
  unfold isInst M.get; dsimp only; rw [h]; dsimp only; rw [if_pos rfl]; rfl
theorem isLst_at {n : Nat} {st : Store} {xs : List D} (h : st[n]? = some (.lst xs)) : isLst (.obj n) st = .ok () st := by
  unfold isLst M.get; dsimp only; rw [h]; rfl
theorem updL_at {n : Nat} {st : Store} {xs ys : List D} {f : List D → Option (List D)} (h : st[n]? = some (.lst xs)) (h2 : f xs = some ys) : updL (.obj n) f st = .ok () (st.set n (.lst ys)) := by
  unfold updL M.get; dsimp only; rw [h]; dsimp only; rw [h2]; rfl
variable {fuel : Nat}
noncomputable def condB (G : Env) (sub : Sub) (c : E) (s : List S) : M Bool := (evE G sub c s).bind asBool
noncomputable def loopW (G : Env) (sub : Sub) (fuel : Nat) (c : E) (b : List T) (n : Nat) (ss : List S) : F := whileN (condB G sub c) (evTs G sub fuel b) n ss
noncomputable def loopF (G : Env) (sub : Sub) (fuel : Nat) (tg : Tg) (b : List T) (gd : Gd) (ds : List D) (ss : List S) : F := forL gd (asg tg) (evTs G sub fuel b) ds ss
@[simp] theorem evTs_nil (ss : List S) : evTs G sub fuel [] ss = .nx ss := by rw [evTs]
@[simp] theorem evTs_cons (t : T) (ts : List T) (ss : List S) : evTs G sub fuel (t :: ts) ss = (evT G sub fuel t ss).seq (evTs G sub fuel ts) := by rw [evTs]
@[simp] theorem evT_pass (ss : List S) : evT G sub fuel .pass ss = .nx ss := by rw [evT]
@[simp] theorem evT_frz (i : Nat) (ss : List S) : evT G sub fuel (.frz i) ss = frzO ss[i]? i ss := by rw [evT]; rfl
@[simp] theorem evT_bxs (i : Nat) (ss : List S) : evT G sub fuel (.bxs i) ss = bxsO ss[i]? i ss := by rw [evT]; rfl
@[simp] theorem evT_asg (tg : Tg) (e : E) (ss : List S) : evT G sub fuel (.asg tg e) ss = (evE G sub e ss).f ss fun r => asgR tg r ss := by rw [evT]
@[simp] theorem evT_par (is : List Nat) (es : List E) (ss : List S) : evT G sub fuel (.par is es) ss = (evF G sub es ss).f ss fun ds => .ofO (setAll is ds ss) := by rw [evT]
@[simp] theorem evT_setix (i : Nat) (ix e : E) (ss : List S) : evT G sub fuel (.setix i ix e) ss = (evE G sub e ss).f ss fun r => (r.fix).f ss fun d => ownS ss[i]? fun xs => (evE G sub ix ss).f ss fun x => (asInt x).f ss fun j => setN i xs d (ixN xs.length j) ss := by rw [evT]
@[simp] theorem evT_aug (i : Nat) (o : PySem.Operator) (e : E) (ss : List S) : evT G sub fuel (.aug i o e) ss = intS ss[i]? fun x => (evE G sub e ss).f ss fun r => intR r fun y => (opD o (.int x) (.int y)).f ss fun z => putR i z ss := by rw [evT]
@[simp] theorem evT_app (i : Nat) (e : E) (ss : List S) : evT G sub fuel (.app i e) ss = ownS ss[i]? fun xs => (evE G sub e ss).f ss fun r => (r.fix).f ss fun d => if xs.length < 16777216 then .nx (ss.set i (.own (xs ++ [d]))) else .bad := by rw [evT]
def extF (i : Nat) (xs : List D) (o : Option (List D)) (ss : List S) : F := match o with
    | some ys => if xs.length + ys.length ≤ line then .nx (ss.set i (.own (xs ++ ys))) else .bad
    | none => .bad
@[simp] theorem extF_some (i : Nat) (xs ys : List D) (ss : List S) : extF i xs (some ys) ss = if xs.length + ys.length ≤ 16777216 then .nx (ss.set i (.own (xs ++ ys))) else .bad := rfl
@[simp] theorem listOf_lst (xs : List D) : listOf (.lst xs) = some xs := rfl
@[simp] theorem evT_ext (i : Nat) (e : E) (ss : List S) : evT G sub fuel (.ext i e) ss = ownS ss[i]? fun xs => (evE G sub e ss).f ss fun r => extF i xs (listOf r.view) ss := by rw [evT]; rfl
@[simp] theorem evT_exp (e : E) (ss : List S) : evT G sub fuel (.exp e) ss = (evE G sub e ss).f ss fun _ => .nx ss := by rw [evT]
@[simp] theorem evT_ret (e : E) (ss : List S) : evT G sub fuel (.ret e) ss = retR G sub e ss := by rw [evT]
@[simp] theorem evT_retN (ss : List S) : evT G sub fuel .retN ss = .rt (.val .non) := by rw [evT]
@[simp] theorem evT_iff (c : E) (a b : List T) (ss : List S) : evT G sub fuel (.iff c a b) ss = ((evE G sub c ss).bind asBool).f ss fun t => if t then evTs G sub fuel a ss else evTs G sub fuel b ss := by rw [evT]
@[simp] theorem evT_whl (c : E) (b : List T) (ss : List S) : evT G sub fuel (.whl c b) ss = loopW G sub fuel c b fuel ss := by rw [evT]; rfl
@[simp] theorem evT_forr (tg : Tg) (it : I) (b : List T) (ss : List S) : evT G sub fuel (.forr tg it b) ss = (evI G sub it ss).f ss fun its => if its.fx then loopF G sub fuel tg b its.gd its.ds ss else .bad := by rw [evT]; rfl
@[simp] theorem evT_brk (ss : List S) : evT G sub fuel .brk ss = .bk ss := by rw [evT]
@[simp] theorem evT_cnt (ss : List S) : evT G sub fuel .cnt ss = .ct ss := by rw [evT]
@[simp] theorem evT_rais (c : Nat) (ss : List S) : evT G sub fuel (.rais c) ss = .ex c ss := by rw [evT]
@[simp] theorem evT_tr (b : List T) (hs : List (List Nat × Option Nat × List T)) (ss : List S) : evT G sub fuel (.tr b hs) ss = (evTs G sub fuel b ss).tr (evHs G sub fuel hs) := by rw [evT]
@[simp] theorem evT_fset (c k : Nat) (a e : E) (ss : List S) : evT G sub fuel (.fset c k a e) ss = (evE G sub e ss).f ss fun r => (r.fix).f ss fun d => (evE G sub a ss).f ss fun o => (setFld o.view c k d).f ss fun _ => .nx ss := by rw [evT]
@[simp] theorem evT_rapp (a e : E) (ss : List S) : evT G sub fuel (.rapp a e) ss = (evE G sub a ss).f ss fun o => (isLst o.view).f ss fun _ => (evE G sub e ss).f ss fun r => (r.fix).f ss fun d => (updL o.view fun xs => if xs.length < 16777216 then some (xs ++ [d]) else none).f ss fun _ => .nx ss := by rw [evT]
def extL (o : Option (List D)) (xs : List D) : Option (List D) := match o with
    | some ys => if xs.length + ys.length ≤ line then some (xs ++ ys) else none
    | none => none
@[simp] theorem evT_rext (a e : E) (ss : List S) : evT G sub fuel (.rext a e) ss = (evE G sub a ss).f ss fun o => (isLst o.view).f ss fun _ => (evE G sub e ss).f ss fun r => (updL o.view (extL (listOf r.view))).f ss fun _ => .nx ss := by rw [evT]; rfl
@[simp] theorem evT_rset (a ix e : E) (ss : List S) : evT G sub fuel (.rset a ix e) ss = (evE G sub e ss).f ss fun r => (r.fix).f ss fun d => (evE G sub a ss).f ss fun o => (evE G sub ix ss).f ss fun x => (asInt x).f ss fun j => (updL o.view fun xs => (ixN xs.length j).map fun n => xs.set n d).f ss fun _ => .nx ss := by rw [evT]
@[simp] theorem evT_rrem (a e : E) (ss : List S) : evT G sub fuel (.rrem a e) ss = (evE G sub a ss).f ss fun o => (isLst o.view).f ss fun _ => (evE G sub e ss).f ss fun r => (updL o.view (remL r.view)).f ss fun _ => .nx ss := by rw [evT]
@[simp] theorem evT_pop (j i : Nat) (ss : List S) : evT G sub fuel (.pop j i) ss = ownS ss[i]? fun xs => popS j i xs ss := by rw [evT]
@[simp] theorem evHs_none (ks : List Nat) (b : List T) (r : List (List Nat × Option Nat × List T)) (c : Nat) (ss : List S) : evHs G sub fuel ((ks, none, b) :: r) c ss = match anyO sub c ks with
    | none => .bad
    | some true => (evTs G sub fuel b ss).hao
    | some false => evHs G sub fuel r c ss := by
  rw [evHs] <;> rfl
@[simp] theorem evHs_some (ks : List Nat) (i : Nat) (b : List T) (r : List (List Nat × Option Nat × List T)) (c : Nat) (ss : List S) : evHs G sub fuel ((ks, some i, b) :: r) c ss = match anyO sub c ks with
    | none => .bad
    | some true => if i < ss.length then (evTs G sub fuel b (ss.set i (.exc c))).han i else .bad
    | some false => evHs G sub fuel r c ss := by
  rw [evHs] <;> rfl
@[simp] theorem evHs_nil (c : Nat) (ss : List S) : evHs G sub fuel [] c ss = .ex c ss := by rw [evHs]
theorem run_eq {f : Fn} {ds : List D} (h : ds.length = f.ar) (hs : f.sc = false) : f.run G sub fuel ds = (evTs G sub fuel f.body (startS f.sl ds)).fin := by
  unfold Fn.run; rw [if_pos h, hs]; rfl
theorem d_run {d : Def} {ds : List D} (h : ds.length = d.ps.length) (hs : d.sc = false) : d.fn.run G sub fuel ds = (evTs G sub fuel d.body (startS d.N.length ds)).fin := run_eq h hs
theorem d_run' {d : Def} {ds : List D} (h : ds.length = d.ps.length) (hs : d.sc = true) : d.fn.run G sub fuel ds = dropM (evTs G sub fuel d.body (startS d.N.length ds)).fin := by
  unfold Fn.run; rw [if_pos (show ds.length = d.fn.ar from h)]; show (if d.sc = true then _ else _) = _; rw [hs]; rfl
theorem drop_at {m : M R} {st st' : Store} {r r' : R} (h : m st = .ok r (st ++ st')) (h2 : meltR st.length (st ++ st') r = some r') : dropM m st = .ok r' st := by
  unfold dropM; rw [h]; dsimp only; rw [List.take_left', if_pos rfl, h2]; rfl
theorem drop_ex {m : M R} {st st' : Store} {c : Nat} (h : m st = .ex c (st ++ st')) : dropM m st = .ex c st := by
  unfold dropM; rw [h]; dsimp only; rw [List.take_left', if_pos rfl]; rfl
@[simp] theorem retR_var (i : Nat) (ss : List S) : retR G sub (.var i) ss = retS ss[i]? := rfl
@[simp] theorem retR_ix (a i : E) (ss : List S) : retR G sub (.ix a i) ss = (evE G sub (.ix a i) ss).f ss rtR := rfl
@[simp] theorem retR_tup (a : List E) (ss : List S) : retR G sub (.tup a) ss = (evE G sub (.tup a) ss).f ss rtR := rfl
@[simp] theorem retR_lst (a : List E) (ss : List S) : retR G sub (.lst a) ss = (evE G sub (.lst a) ss).f ss rtR := rfl
@[simp] theorem retR_op (o : PySem.Operator) (a b : E) (ss : List S) : retR G sub (.op o a b) ss = (evE G sub (.op o a b) ss).f ss rtR := rfl
@[simp] theorem retR_neg (a : E) (ss : List S) : retR G sub (.neg a) ss = (evE G sub (.neg a) ss).f ss rtR := rfl
@[simp] theorem retR_not (a : E) (ss : List S) : retR G sub (.not a) ss = (evE G sub (.not a) ss).f ss rtR := rfl
@[simp] theorem retR_cmp (o : PySem.CmpOp) (a b : E) (ss : List S) : retR G sub (.cmp o a b) ss = (evE G sub (.cmp o a b) ss).f ss rtR := rfl
@[simp] theorem retR_chain (o p : PySem.CmpOp) (a b c : E) (ss : List S) : retR G sub (.chain o p a b c) ss = (evE G sub (.chain o p a b c) ss).f ss rtR := rfl
@[simp] theorem retR_and (a b : E) (ss : List S) : retR G sub (.and a b) ss = (evE G sub (.and a b) ss).f ss rtR := rfl
@[simp] theorem retR_or (a b : E) (ss : List S) : retR G sub (.or a b) ss = (evE G sub (.or a b) ss).f ss rtR := rfl
@[simp] theorem retR_ite (a b c : E) (ss : List S) : retR G sub (.ite a b c) ss = (evE G sub (.ite a b c) ss).f ss rtR := rfl
@[simp] theorem retR_call (f : Nat) (a : List E) (ss : List S) : retR G sub (.call f a) ss = (evE G sub (.call f a) ss).f ss rtR := rfl
@[simp] theorem retR_blt (f : B) (a : List E) (ss : List S) : retR G sub (.blt f a) ss = (evE G sub (.blt f a) ss).f ss rtR := rfl
@[simp] theorem retR_sl (a : E) (b c : Option E) (ss : List S) : retR G sub (.sl a b c) ss = (evE G sub (.sl a b c) ss).f ss rtR := rfl
@[simp] theorem retR_isi (a : E) (t : Ty) (ss : List S) : retR G sub (.isi a t) ss = (evE G sub (.isi a t) ss).f ss rtR := rfl
@[simp] theorem retR_isx (i : Nat) (cs : List Nat) (ss : List S) : retR G sub (.isx i cs) ss = (evE G sub (.isx i cs) ss).f ss rtR := rfl
@[simp] theorem retR_lc (vs : List Nat) (tg : Tg) (it : I) (c : Option E) (e : E) (ss : List S) : retR G sub (.lc vs tg it c e) ss = (evE G sub (.lc vs tg it c e) ss).f ss rtR := rfl
@[simp] theorem retR_box (a : E) (ss : List S) : retR G sub (.box a) ss = (evE G sub (.box a) ss).f ss rtR := rfl
@[simp] theorem retR_fld (c k : Nat) (a : E) (ss : List S) : retR G sub (.fld c k a) ss = (evE G sub (.fld c k a) ss).f ss rtR := rfl
@[simp] theorem retR_new (c f n : Nat) (es : List E) (ss : List S) : retR G sub (.new c f n es) ss = (evE G sub (.new c f n es) ss).f ss rtR := rfl
@[simp] theorem retR_mth (c f : Nat) (a : E) (es : List E) (ss : List S) : retR G sub (.mth c f a es) ss = (evE G sub (.mth c f a es) ss).f ss rtR := rfl
@[simp] theorem retR_ixr (a i : E) (ss : List S) : retR G sub (.ixr a i) ss = (evE G sub (.ixr a i) ss).f ss rtR := rfl
@[simp] theorem retR_slr (a : E) (b c : Option E) (ss : List S) : retR G sub (.slr a b c) ss = (evE G sub (.slr a b c) ss).f ss rtR := rfl
@[simp] theorem retR_cmpr (o : PySem.CmpOp) (a b : E) (ss : List S) : retR G sub (.cmpr o a b) ss = (evE G sub (.cmpr o a b) ss).f ss rtR := rfl
@[simp] theorem retR_bltr (f : B) (a : List E) (ss : List S) : retR G sub (.bltr f a) ss = (evE G sub (.bltr f a) ss).f ss rtR := rfl
@[simp] theorem retR_k (d : D) (ss : List S) : retR G sub (.k d) ss = (evE G sub (.k d) ss).f ss rtR := rfl
@[simp] theorem retR_gl (x : String) (d : D) (ss : List S) : retR G sub (.gl x d) ss = (evE G sub (.gl x d) ss).f ss rtR := rfl
end
/-! data -/
@[simp] theorem cmp_eq (d e : D) : cmpD .Eq d e = deepM d e (eqD d e) := by cases d <;> cases e <;> rfl
@[simp] theorem cmp_ne (d e : D) : cmpD .NotEq d e = deepM d e (!eqD d e) := by cases d <;> cases e <;> rfl
@[simp] theorem cmp_lt (i j : Int) : cmpD .Lt (.int i) (.int j) = .ok (.val (.bl (decide (i < j)))) := rfl
@[simp] theorem cmp_le (i j : Int) : cmpD .LtE (.int i) (.int j) = .ok (.val (.bl (decide (i ≤ j)))) := rfl
@[simp] theorem cmp_gt (i j : Int) : cmpD .Gt (.int i) (.int j) = .ok (.val (.bl (decide (j < i)))) := rfl
@[simp] theorem cmp_ge (i j : Int) : cmpD .GtE (.int i) (.int j) = .ok (.val (.bl (decide (j ≤ i)))) := rfl
@[simp] theorem cmp_is (i j : Bool) : cmpD .Is (.bl i) (.bl j) = .ok (.val (.bl (decide (i = j)))) := rfl

@[simp] theorem blt_len_lst (xs : List D) : bltD .len [.lst xs] = .ok (.val (.int xs.length)) := rfl
@[simp] theorem blt_len_tup (xs : List D) : bltD .len [.tup xs] = .ok (.val (.int xs.length)) := rfl
@[simp] theorem blt_len_scr (xs : List D) : bltD .len [.scr xs] = .ok (.val (.int xs.length)) := rfl
@[simp] theorem blt_abs (i : Int) : bltD .abs [.int i] = .ok (.val (.int (i.natAbs : Int))) := by rw [← abs_eq]; rfl
@[simp] theorem blt_int (i : Int) : bltD .int [.int i] = .ok (.val (.int i)) := rfl
@[simp] theorem blt_intb (b : Bool) : bltD .int [.bl b] = .ok (.val (.int (if b then 1 else 0))) := rfl
@[simp] theorem blt_tuple_lst (xs : List D) : bltD .tuple [.lst xs] = .ok (.val (.tup xs)) := rfl
@[simp] theorem blt_tuple_tup (xs : List D) : bltD .tuple [.tup xs] = .ok (.val (.tup xs)) := rfl
@[simp] theorem blt_list_lst (xs : List D) : bltD .list [.lst xs] = .ok (.own xs) := rfl
@[simp] theorem blt_list_tup (xs : List D) : bltD .list [.tup xs] = .ok (.own xs) := rfl
@[simp] theorem ix_lst (xs : List D) (i : Int) : ixD (.lst xs) (.int i) = (M.ofO (atI xs i)).bind fun d => .ok (.val d) := rfl
@[simp] theorem ix_tup (xs : List D) (i : Int) : ixD (.tup xs) (.int i) = (M.ofO (atI xs i)).bind fun d => .ok (.val d) := rfl
@[simp] theorem ix_scr (xs : List D) (i : Int) : ixD (.scr xs) (.int i) = (M.ofO (atI xs i)).bind fun d => .ok (.val d) := rfl
@[simp] theorem sl_lst (xs : List D) (lo hi : Option Int) : slD (.lst xs) lo hi = .ok (.own (cut xs lo hi)) := rfl
@[simp] theorem sl_scr (xs : List D) (lo hi : Option Int) : slD (.scr xs) lo hi = .ok (.own (cut xs lo hi)) := rfl
@[simp] theorem sl_tup (xs : List D) (lo hi : Option Int) : slD (.tup xs) lo hi = .ok (.val (.tup (cut xs lo hi))) := rfl
@[simp] theorem isTy_int (i : Int) (t : Ty) : isTy t (.int i) = (t == .int) := by cases t <;> rfl
@[simp] theorem isTy_bl (i : Bool) (t : Ty) : isTy t (.bl i) = (t == .bool || t == .int) := by cases t <;> rfl
@[simp] theorem isTy_tup (xs : List D) (t : Ty) : isTy t (.tup xs) = (t == .tuple) := by cases t <;> rfl
@[simp] theorem isTy_lst (xs : List D) (t : Ty) : isTy t (.lst xs) = (t == .list) := by cases t <;> rfl
@[simp] theorem isTy_str (s : PySem.Str) (t : Ty) : isTy t (.str s) = (t == .str) := by cases t <;> rfl
@[simp] theorem isTy_non (t : Ty) : isTy t .non = false := by cases t <;> rfl
@[simp] theorem atI_0 (x : D) (r : List D) : atI (x :: r) 0 = some x := by unfold atI ixN; simp
@[simp] theorem atI_1 (x y : D) (r : List D) : atI (x :: y :: r) 1 = some y := by unfold atI ixN; simp only [List.length_cons]; rw [if_pos (by omega), if_pos (by omega)]; rfl
/-- the Env has, under this number, a def that keeps P -/
def Has (G : Env) (i : Nat) (P : (List D → M R) → Prop) : Prop := ∃ g, G i = some g ∧ P g
/-- the def of this number, and those behind it -/
def findDef (i : Nat) : List Def → Option (Def × List Def)
  | [] => none
  | d :: ds => if i = d.id then some (d, ds) else findDef i ds
theorem envOf_find {sub : Sub} {fuel : Nat} {i : Nat} {d : Def} {r : List Def} : ∀ {ds : List Def}, findDef i ds = some (d, r) → envOf sub fuel ds i = some (d.fn.run (envOf sub fuel r) sub fuel)
  | [], h => nomatch h
  | e :: ds, h => by
    unfold findDef at h
    rw [show envOf sub fuel (e :: ds) i = if i = e.id then some (e.fn.run (envOf sub fuel ds) sub fuel) else envOf sub fuel ds i from rfl]
    split at h
    · rename_i hi
      cases h
      rw [if_pos hi]
    · rename_i hi
      rw [if_neg hi]
      exact envOf_find h
theorem has_of {sub : Sub} {fuel : Nat} {i : Nat} {P : (List D → M R) → Prop} {ds : List Def} (d : Def) (r : List Def) (h : findDef i ds = some (d, r)) (hp : P (d.fn.run (envOf sub fuel r) sub fuel)) : Has (envOf sub fuel ds) i P :=
  ⟨_, envOf_find h, hp⟩
theorem atI_map {α β : Type} (f : α → β) (xs : List α) (i : Int) (h0 : 0 ≤ i) (h1 : i < xs.length) : atI (xs.map f) i = (xs[i.toNat]?).map f := by
  unfold atI ixN
  rw [List.length_map, if_pos h0, if_pos h1]
  simp
end EV

set_option linter.all false
set_option autoImplicit false
namespace EV
/-! EwD2: loops. -/
@[simp] theorem gd_nil (st : Store) : Gd.ok [] st := fun _ h => by cases h
@[simp] theorem loop_nx (s : List S) (k : List S → F) : (F.nx s).loop k = k s := rfl
@[simp] theorem loop_ct (s : List S) (k : List S → F) : (F.ct s).loop k = k s := rfl
@[simp] theorem loop_bk (s : List S) (k : List S → F) : (F.bk s).loop k = .nx s := rfl
@[simp] theorem loop_rt (s : R) (k : List S → F) : (F.rt s).loop k = .rt s := rfl
@[simp] theorem loop_ex (c : Nat) (s : List S) (k : List S → F) : (F.ex c s).loop k = .ex c s := rfl
theorem forL_nil0 {g : D → List S → M (List S)} {b : List S → F} {ss : List S} : forL [] g b [] ss = .nx ss := by
  unfold forL; funext st; exact if_pos (gd_nil st)
theorem forL_cons0 {g : D → List S → M (List S)} {b : List S → F} {x : D} {r : List D} {ss : List S} : forL [] g b (x :: r) ss = (g x ss).f ss fun s1 => (b s1).loop (forL [] g b r) := by
  conv => lhs; unfold forL
  funext st; rw [if_pos (gd_nil st)]
theorem euclid_while {c : List S → M Bool} {b : List S → F}
    (hc : ∀ x y : Int, c [.val (.int x), .val (.int y)] = .ok (!decide (y = 0)))
    (hb : ∀ x y : Int, 0 ≤ x → 0 < y → b [.val (.int x), .val (.int y)] = .nx [.val (.int y), .val (.int (x % y))]) :
    ∀ (m n : Nat) (x y : Nat), y < 2 ^ m → 2 * m + 1 ≤ n → whileN c b n [.val (.int x), .val (.int y)] = .nx [.val (.int (Nat.gcd x y : Nat)), .val (.int 0)] := by
  intro m
  induction m with
  | zero =>
    intro n x y h hn
    obtain ⟨n, rfl⟩ : ∃ k, n = k + 1 := ⟨n - 1, by omega⟩
    have : y = 0 := by simpa using h
    subst this
    simp [whileN, hc]
  | succ m ih =>
    intro n x y h hn
    obtain ⟨n, rfl⟩ : ∃ k, n = k + 1 := ⟨n - 1, by omega⟩
    by_cases hy : y = 0
    · subst hy
      simp [whileN, hc]
    · have hy' : (0 : Int) < (y : Int) := by omega
      have hr : x % y < y := Nat.mod_lt _ (by omega)
      have e : (x : Int) % (y : Int) = ((x % y : Nat) : Int) := by simp
      have g : Nat.gcd x y = Nat.gcd y (x % y) := by rw [Nat.gcd_comm x y, Nat.gcd_rec y x, Nat.gcd_comm]
      have hy2 : ¬ ((y : Int) = 0) := by omega
      simp only [whileN, hc, M_f_ok, loop_nx, hy2, decide_false, Bool.not_false, if_true, hb _ _ (Int.natCast_nonneg x) hy', e]
      by_cases hr2 : x % y < 2 ^ m
      · rw [ih n y (x % y) hr2 (by omega), g]
      · obtain ⟨n, rfl⟩ : ∃ k, n = k + 1 := ⟨n - 1, by omega⟩
        have p2 : 2 ^ (m+1) = 2 * 2 ^ m := by rw [Nat.pow_succ]; omega
        have hr0 : (0 : Int) < ((x % y : Nat) : Int) := by have := Nat.two_pow_pos m; omega
        have hr3 : ¬ (((x % y : Nat) : Int) = 0) := by omega
        have e2 : (y : Int) % ((x % y : Nat) : Int) = ((y % (x % y) : Nat) : Int) := by simp
        have q : y % (x % y) < 2 ^ m := by
          have h1 : y % (x % y) = (y - x % y) % (x % y) := Nat.mod_eq_sub_mod (by omega)
          have h2 := Nat.mod_le (y - x % y) (x % y)
          omega
        have g2 : Nat.gcd y (x % y) = Nat.gcd (x % y) (y % (x % y)) := by rw [Nat.gcd_comm y (x % y), Nat.gcd_rec (x % y) y, Nat.gcd_comm]
        simp only [whileN, hc, M_f_ok, loop_nx, hr3, decide_false, Bool.not_false, if_true, hb _ _ (Int.natCast_nonneg y) hr0, e2]
        rw [ih n _ _ q (by omega), g, g2]

theorem euclid_for {g : D → List S → M (List S)} {b : List S → F}
    (hg : ∀ (k : Nat) x y z, g (.int k) [x, y, z] = .ok [x, y, .val (.int k)])
    (h0 : ∀ (x : Int) (k : Nat), b [.val (.int x), .val (.int 0), .val (.int k)] = .bk [.val (.int x), .val (.int 0), .val (.int k)])
    (hb : ∀ (x y : Int) (k : Nat), 0 ≤ x → 0 < y → b [.val (.int x), .val (.int y), .val (.int k)] = .nx [.val (.int y), .val (.int (x % y)), .val (.int k)]) :
    ∀ (m : Nat) (ks : List Nat) (x y : Nat) (z : S), y < 2 ^ m → 2 * m + 1 ≤ ks.length → ∃ z', forL [] g b (ks.map fun k : Nat => D.int k) [.val (.int x), .val (.int y), z] = .nx [.val (.int (Nat.gcd x y : Nat)), .val (.int 0), z'] := by
  intro m
  induction m with
  | zero =>
    intro ks x y z h hn
    obtain ⟨k, ks, rfl⟩ := List.length_pos_iff_exists_cons.mp (by omega : 0 < ks.length)
    have : y = 0 := by simpa using h
    subst this
    exact ⟨_, by simp [forL_cons0, hg, h0]; rfl⟩
  | succ m ih =>
    intro ks x y z h hn
    obtain ⟨k, ks, rfl⟩ := List.length_pos_iff_exists_cons.mp (by omega : 0 < ks.length)
    simp only [List.length_cons] at hn
    by_cases hy : y = 0
    · subst hy
      exact ⟨_, by simp [forL_cons0, hg, h0]; rfl⟩
    · have hy' : (0 : Int) < (y : Int) := by omega
      have hr : x % y < y := Nat.mod_lt _ (by omega)
      have e : (x : Int) % (y : Int) = ((x % y : Nat) : Int) := by simp
      have g' : Nat.gcd x y = Nat.gcd y (x % y) := by rw [Nat.gcd_comm x y, Nat.gcd_rec y x, Nat.gcd_comm]
      simp only [List.map_cons, forL_cons0, M_f_ok, loop_nx, hg, hb _ _ _ (Int.natCast_nonneg x) hy', e]
      by_cases hr2 : x % y < 2 ^ m
      · rw [g']; exact ih ks y (x % y) _ hr2 (by omega)
      · obtain ⟨k2, ks, rfl⟩ := List.length_pos_iff_exists_cons.mp (by omega : 0 < ks.length)
        simp only [List.length_cons] at hn
        have p2 : 2 ^ (m+1) = 2 * 2 ^ m := by rw [Nat.pow_succ]; omega
        have hr0 : (0 : Int) < ((x % y : Nat) : Int) := by have := Nat.two_pow_pos m; omega
        have e2 : (y : Int) % ((x % y : Nat) : Int) = ((y % (x % y) : Nat) : Int) := by simp
        have q : y % (x % y) < 2 ^ m := by
          have h1 : y % (x % y) = (y - x % y) % (x % y) := Nat.mod_eq_sub_mod (by omega)
          have h2 := Nat.mod_le (y - x % y) (x % y)
          omega
        have g2 : Nat.gcd y (x % y) = Nat.gcd (x % y) (y % (x % y)) := by rw [Nat.gcd_comm y (x % y), Nat.gcd_rec (x % y) y, Nat.gcd_comm]
        simp only [List.map_cons, forL_cons0, M_f_ok, loop_nx, hg, hb _ _ _ (Int.natCast_nonneg y) hr0, e2]
        rw [g', g2]
        exact ih ks _ _ _ q (by omega)
/-- behind a turn -/
def Turn (P : List S → Store → Prop) (Q : FO → Prop) (o : FO) : Prop := match o with
  | .nx s st => P s st
  | .ct s st => P s st
  | .bk s st => Q (.nx s st)
  | o => Q o
@[simp] theorem turn_nx (P : List S → Store → Prop) (Q : FO → Prop) (s : List S) (st : Store) : Turn P Q (.nx s st) = P s st := rfl
@[simp] theorem turn_ct (P : List S → Store → Prop) (Q : FO → Prop) (s : List S) (st : Store) : Turn P Q (.ct s st) = P s st := rfl
@[simp] theorem turn_bk (P : List S → Store → Prop) (Q : FO → Prop) (s : List S) (st : Store) : Turn P Q (.bk s st) = Q (.nx s st) := rfl
@[simp] theorem turn_rt (P : List S → Store → Prop) (Q : FO → Prop) (r : R) (st : Store) : Turn P Q (.rt r st) = Q (.rt r st) := rfl
@[simp] theorem turn_ex (P : List S → Store → Prop) (Q : FO → Prop) (c : Nat) (s : List S) (st : Store) : Turn P Q (.ex c s st) = Q (.ex c s st) := rfl
/-- a def's end -/
def Is (r : Out R) (o : FO) : Prop := o.fin = r
@[simp] theorem is_nx (r : Out R) (s : List S) (st : Store) : Is r (.nx s st) = (Out.ok (.val .non) st = r) := rfl
@[simp] theorem is_val (r : Out R) (d : D) (st : Store) : Is r (.rt (.val d) st) = (Out.ok (.val d) st = r) := rfl
@[simp] theorem is_own (r : Out R) (d : List D) (st : Store) : Is r (.rt (.own d) st) = (Out.ok (.own d) st = r) := rfl
@[simp] theorem is_ex (r : Out R) (c : Nat) (s : List S) (st : Store) : Is r (.ex c s st) = (Out.ex c st = r) := rfl
/-- a def's end keeps P -/
def En (P : Out R → Prop) (o : FO) : Prop := P o.fin
@[simp] theorem en_nx (P : Out R → Prop) (s : List S) (st : Store) : En P (.nx s st) = P (.ok (.val .non) st) := rfl
@[simp] theorem en_val (P : Out R → Prop) (d : D) (st : Store) : En P (.rt (.val d) st) = P (.ok (.val d) st) := rfl
@[simp] theorem en_own (P : Out R → Prop) (d : List D) (st : Store) : En P (.rt (.own d) st) = P (.ok (.own d) st) := rfl
@[simp] theorem en_ex (P : Out R → Prop) (c : Nat) (s : List S) (st : Store) : En P (.ex c s st) = P (.ex c st) := rfl
section
variable {G : Env} {sub : Sub} {fuel : Nat}
theorem d_is {d : Def} {ds : List D} {st : Store} {r : Out R} (h : ds.length = d.ps.length) (hs : d.sc = false) (q : Is r (evTs G sub fuel d.body (startS d.N.length ds) st)) : d.fn.run G sub fuel ds st = r := by
  rw [d_run h hs, fin_app]; exact q
theorem d_en {d : Def} {ds : List D} {st : Store} {P : Out R → Prop} (h : ds.length = d.ps.length) (hs : d.sc = false) (q : En P (evTs G sub fuel d.body (startS d.N.length ds) st)) : P (d.fn.run G sub fuel ds st) := by
  rw [d_run h hs, fin_app]; exact q
/-- a for, by an invariant -/
theorem for_ruleG {tg : Tg} {b : List T} {gd : Gd} {xs : List D} {ss : List S} {st : Store} {k : List S → F} {Q : FO → Prop} (P : Nat → List S → Store → Prop) (h0 : P 0 ss st) (hg : ∀ i s st, P i s st → gd.ok st)
    (hs : ∀ i x s st, xs[i]? = some x → P i s st → Turn (P (i + 1)) (fun o => Q (o.sq k)) (((asg tg x s).f s (evTs G sub fuel b)) st)) (hk : ∀ s st, P xs.length s st → Q (k s st)) : Q ((loopF G sub fuel tg b gd xs ss st).sq k) := by
  unfold loopF
  suffices H : ∀ (r : List D) (i : Nat) (s : List S) (st : Store), xs.drop i = r → i ≤ xs.length → P i s st → Q ((forL gd (asg tg) (evTs G sub fuel b) r s st).sq k) from H xs 0 ss st rfl (Nat.zero_le _) h0
  intro r
  induction r with
  | nil =>
    intro i s st hr hi hp
    have : xs.length ≤ i := List.drop_eq_nil_iff.mp hr
    have : i = xs.length := by omega
    subst this
    unfold forL
    rw [if_pos (hg _ _ _ hp)]
    exact hk s st hp
  | cons d r ih =>
    intro i s st hr hi hp
    have hl : i < xs.length := by
      refine Nat.lt_of_not_le fun h => ?_
      rw [List.drop_eq_nil_of_le h] at hr; cases hr
    have hd : xs[i]? = some d := by
      have := List.getElem?_drop (xs := xs) (i := i) (j := 0)
      rw [hr] at this
      simpa using this.symm
    have hr' : xs.drop (i + 1) = r := by
      have := congrArg List.tail hr
      rw [List.tail_drop] at this
      exact this
    have t := hs i d s st hd hp
    have e : forL gd (asg tg) (evTs G sub fuel b) (d :: r) s st = ((asg tg d s).f s fun s1 => (evTs G sub fuel b s1).loop (forL gd (asg tg) (evTs G sub fuel b) r)) st := by
      conv => lhs; unfold forL
      exact if_pos (hg _ _ _ hp)
    rw [e]
    rw [f_app] at t ⊢
    cases ea : asg tg d s st with
    | bad => rw [ea] at t; exact t
    | ex c st1 => rw [ea] at t; exact t
    | ok s1 st1 =>
      rw [ea] at t
      rw [fo_ok] at t ⊢
      unfold F.loop
      cases eb : evTs G sub fuel b s1 st1 with
      | nx s2 st2 => rw [eb] at t; exact ih (i + 1) s2 st2 hr' (by omega) t
      | ct s2 st2 => rw [eb] at t; exact ih (i + 1) s2 st2 hr' (by omega) t
      | bk s2 st2 => rw [eb] at t; exact t
      | rt r2 st2 => rw [eb] at t; exact t
      | ex c2 s2 st2 => rw [eb] at t; exact t
      | bad => rw [eb] at t; exact t
theorem for_rule {tg : Tg} {b : List T} {xs : List D} {ss : List S} {st : Store} {k : List S → F} {Q : FO → Prop} (P : Nat → List S → Store → Prop) (h0 : P 0 ss st)
    (hs : ∀ i x s st, xs[i]? = some x → P i s st → Turn (P (i + 1)) (fun o => Q (o.sq k)) (((asg tg x s).f s (evTs G sub fuel b)) st)) (hk : ∀ s st, P xs.length s st → Q (k s st)) : Q ((loopF G sub fuel tg b [] xs ss st).sq k) :=
  for_ruleG P h0 (fun _ _ st _ => gd_nil st) hs hk
/-- over the images of things -/
theorem for_map {A : Type} {enc : A → D} {tg : Tg} {b : List T} {xs : List A} {ss : List S} {st : Store} {k : List S → F} {Q : FO → Prop} (P : Nat → List S → Store → Prop) (h0 : P 0 ss st)
    (hs : ∀ i x s st, xs[i]? = some x → P i s st → Turn (P (i + 1)) (fun o => Q (o.sq k)) (((asg tg (enc x) s).f s (evTs G sub fuel b)) st)) (hk : ∀ s st, P xs.length s st → Q (k s st)) : Q ((loopF G sub fuel tg b [] (xs.map enc) ss st).sq k) := by
  refine for_rule P h0 (fun i x s st hx hp => ?_) (fun s st hp => hk s st (by simpa using hp))
  rw [List.getElem?_map] at hx
  obtain ⟨a, ha, rfl⟩ := Option.map_eq_some_iff.mp hx
  exact hs i a s st ha hp
/-- a plain sum of turns -/
theorem for_fold {A B : Type} {enc : A → D} {tg : Tg} {b : List T} {xs : List A} (sf : B → List S) (step : B → A → B) (b0 : B) (hs : ∀ a x, x ∈ xs → (asg tg (enc x) (sf a)).f (sf a) (evTs G sub fuel b) = .nx (sf (step a x))) :
    loopF G sub fuel tg b [] (xs.map enc) (sf b0) = .nx (sf (xs.foldl step b0)) := by
  unfold loopF
  induction xs generalizing b0 with
  | nil => exact forL_nil0
  | cons x xs ih =>
    rw [List.map_cons, forL_cons0]
    have h := hs b0 x List.mem_cons_self
    funext st
    have h2 := congrFun h st
    rw [f_app] at h2 ⊢
    cases ea : asg tg (enc x) (sf b0) st with
    | bad => rw [ea] at h2; cases h2
    | ex c st1 => rw [ea] at h2; cases h2
    | ok s1 st1 =>
      rw [ea] at h2
      rw [fo_ok] at h2 ⊢
      unfold F.loop
      rw [h2]
      exact congrFun (ih _ fun a y hy => hs a y (List.mem_cons_of_mem _ hy)) st
/-- a while, by an invariant with a measure -/
theorem while_rule {c : E} {b : List T} {ss : List S} {st : Store} {k : List S → F} {Q : FO → Prop} (P : Nat → List S → Store → Prop) (m : Nat) (h0 : P m ss st) {n : Nat} (hn : m < n)
    (hs : ∀ i s st, P i s st → (condB G sub c s st = .ok false st ∧ Q (k s st)) ∨ (condB G sub c s st = .ok true st ∧ Turn (fun s' st' => ∃ j, j < i ∧ P j s' st') (fun o => Q (o.sq k)) (evTs G sub fuel b s st))) : Q ((loopW G sub fuel c b n ss st).sq k) := by
  unfold loopW
  induction n generalizing m ss st with
  | zero => omega
  | succ n ih =>
    unfold whileN
    rcases hs m ss st h0 with ⟨h1, h2⟩ | ⟨h1, h2⟩
    · rw [f_app, h1]; exact h2
    · rw [f_app, h1, fo_ok]
      show Q (((evTs G sub fuel b ss).loop (whileN (condB G sub c) (evTs G sub fuel b) n) st).sq k)
      unfold F.loop
      cases eb : evTs G sub fuel b ss st with
      | nx s2 st2 => rw [eb] at h2; obtain ⟨j, hj, hp⟩ := h2; exact ih j hp (by omega)
      | ct s2 st2 => rw [eb] at h2; obtain ⟨j, hj, hp⟩ := h2; exact ih j hp (by omega)
      | bk s2 st2 => rw [eb] at h2; exact h2
      | rt r2 st2 => rw [eb] at h2; exact h2
      | ex c2 s2 st2 => rw [eb] at h2; exact h2
      | bad => rw [eb] at h2; exact h2
/-! ### comprehensions -/
theorem lcG_ok {f : D → M (Option D)} {o : D → Option D} : ∀ {xs : List D}, (∀ x ∈ xs, f x = .ok (o x)) → lcG [] f xs = .ok (xs.filterMap o)
  | [], _ => by
    unfold lcG; funext st; rw [if_pos (gd_nil st)]; rfl
  | x :: xs, h => by
    have ih := lcG_ok (f := f) (xs := xs) fun y hy => h y (List.mem_cons_of_mem _ hy)
    unfold lcG; funext st; rw [if_pos (gd_nil st), h x List.mem_cons_self, M_bind_ok, ih, M_bind_ok, List.filterMap_cons]
    cases o x <;> rfl
theorem calm_okM {α : Type} {m : M α} {a : α} (h : m = .ok a) : M.calm m = .ok a := by subst h; rfl
theorem lcE_ok {vs : List Nat} {tg : Tg} {c : Option E} {e : E} {ss : List S} {xs : List D} (o : D → Option D) (h : ∀ x ∈ xs, lcF G sub vs tg c e ss x = .ok (o x)) : lcE G sub vs tg c e ss [] xs = .ok (xs.filterMap o) := calm_okM (lcG_ok h)
theorem filterMap_some {α β : Type} (f : α → β) : ∀ xs : List α, xs.filterMap (fun x => some (f x)) = xs.map f
  | [] => rfl
  | x :: xs => by rw [List.filterMap_cons, filterMap_some f xs]; rfl
theorem lcE_map {A : Type} {enc : A → D} {vs : List Nat} {tg : Tg} {c : Option E} {e : E} {ss : List S} {xs : List A} (r : A → D) (h : ∀ x ∈ xs, lcF G sub vs tg c e ss (enc x) = .ok (some (r x))) : lcE G sub vs tg c e ss [] (xs.map enc) = .ok (xs.map r) := by
  refine calm_okM ?_
  induction xs with
  | nil => unfold lcG; funext st; rw [List.map_nil]; exact if_pos (gd_nil st)
  | cons x xs ih =>
    rw [List.map_cons]
    unfold lcG; funext st; rw [if_pos (gd_nil st), h x List.mem_cons_self, M_bind_ok, ih fun y hy => h y (List.mem_cons_of_mem _ hy)]
    rfl
theorem lcE_fmap {A : Type} {enc : A → D} {vs : List Nat} {tg : Tg} {c : Option E} {e : E} {ss : List S} {xs : List A} (r : A → Option D) (h : ∀ x ∈ xs, lcF G sub vs tg c e ss (enc x) = .ok (r x)) : lcE G sub vs tg c e ss [] (xs.map enc) = .ok (xs.filterMap r) := by
  refine calm_okM ?_
  induction xs with
  | nil => unfold lcG; funext st; rw [List.map_nil]; exact if_pos (gd_nil st)
  | cons x xs ih =>
    rw [List.map_cons]
    unfold lcG; funext st; rw [if_pos (gd_nil st), h x List.mem_cons_self, M_bind_ok, ih fun y hy => h y (List.mem_cons_of_mem _ hy), M_bind_ok, List.filterMap_cons]
    cases r x <;> rfl
theorem lcE_filter {A : Type} {enc : A → D} {vs : List Nat} {tg : Tg} {c : Option E} {e : E} {ss : List S} {xs : List A} (p : A → Bool) (r : A → D) (h : ∀ x ∈ xs, lcF G sub vs tg c e ss (enc x) = .ok (if p x then some (r x) else none)) : lcE G sub vs tg c e ss [] (xs.map enc) = .ok ((xs.filter p).map r) := by
  rw [lcE_fmap _ h]
  congr 1
  induction xs with
  | nil => rfl
  | cons x xs ih =>
    rw [List.filterMap_cons, ih fun y hy => h y (List.mem_cons_of_mem _ hy), List.filter_cons]
    cases p x <;> simp
end
theorem rngL_get {lo hi : Int} {i : Nat} {d : D} (h : (rngL lo hi)[i]? = some d) : d = .int (lo + i) ∧ lo + i < hi := by
  unfold rngL at h
  rw [List.getElem?_map] at h
  cases h1 : (List.range (hi - lo).toNat)[i]? with
  | none => rw [h1] at h; cases h
  | some j =>
    rw [h1] at h
    rw [List.getElem?_eq_some_iff] at h1
    obtain ⟨h2, h3⟩ := h1
    rw [List.getElem_range] at h3
    subst h3
    rw [List.length_range] at h2
    cases h
    exact ⟨rfl, by omega⟩
theorem rngL_len {lo hi : Int} : (rngL lo hi).length = (hi - lo).toNat := by
  unfold rngL; rw [List.length_map, List.length_range]
theorem rngL_nat (n : Nat) : rngL 0 (n : Int) = (List.range n).map fun k : Nat => D.int k := by
  unfold rngL; simp
theorem enumL_map {A : Type} (enc : A → D) : ∀ (n : Nat) (xs : List A), enumL n (xs.map enc) = (xs.zipIdx n).map fun p => .tup [.int (p.2 : Nat), enc p.1]
  | _, [] => rfl
  | n, x :: xs => by rw [List.map_cons, enumL, enumL_map enc (n + 1) xs]; rfl
theorem zipL_map {A B : Type} (f : A → D) (g : B → D) (xs : List A) (ys : List B) : zipL (xs.map f) (ys.map g) = (xs.zip ys).map fun p => .tup [f p.1, g p.2] := by
  unfold zipL
  rw [List.zipWith_map, List.zip, List.map_zipWith]
end EV

set_option linter.all false
set_option autoImplicit false
namespace EV
open PySem (Str)
/-! EwD3: texts, pop, insert, sorted, chains; defs that stand further down. -/
section
variable {G : Env} {sub : Sub}
@[simp] theorem evE_chn (a : E) (os : List PySem.CmpOp) (es : List E) (ss : List S) : evE G sub (.chn a os es) ss = (evE G sub a ss).bind fun x => evCh G sub x os es ss := by rw [evE]
@[simp] theorem evCh_1 (x : R) (o : PySem.CmpOp) (e : E) (ss : List S) : evCh G sub x [o] [e] ss = (evE G sub e ss).bind fun y => cmpD o x.view y.view := by rw [evCh]
@[simp] theorem evCh_2 (x : R) (o p : PySem.CmpOp) (os : List PySem.CmpOp) (e : E) (es : List E) (ss : List S) : evCh G sub x (o :: p :: os) (e :: es) ss = (evE G sub e ss).bind fun y => (cmpD o x.view y.view).bind fun z => (asBool z).bind fun t => if t then evCh G sub y (p :: os) es ss else .ok (.val (.bl false)) := by rw [evCh]
@[simp] theorem evE_orV (a b : E) (ss : List S) : evE G sub (.orV a b) ss = (evE G sub a ss).bind fun x => (strR x).bind fun z => if z.length = 0 then evE G sub b ss else guardM (decide (z.length ≤ 16777216)) (.ok (.val (.str z))) := by rw [evE]
@[simp] theorem evE_sm (m : Sm) (a : E) (es : List E) (ss : List S) : evE G sub (.sm m a es) ss = (evE G sub a ss).bind fun x => (strR x).bind fun z => (evs G sub es ss).bind fun rs => smD m z (rs.map R.view) := by rw [evE]
@[simp] theorem evE_fs (es : List E) (ss : List S) : evE G sub (.fs es) ss = evJ G sub es Str.empty ss := by rw [evE]
@[simp] theorem evJ_nil (acc : Str) (ss : List S) : evJ G sub [] acc ss = .ok (.val (.str acc)) := by rw [evJ]
@[simp] theorem evJ_cons (e : E) (es : List E) (acc : Str) (ss : List S) : evJ G sub (e :: es) acc ss = (evE G sub e ss).bind fun x => (fmtD x.view).bind fun y => guardM (decide ((acc ++ y).length ≤ 16777216)) (evJ G sub es (acc ++ y) ss) := by rw [evJ]
@[simp] theorem evE_lrng (lo : Option E) (hi : E) (ss : List S) : evE G sub (.lrng lo hi) ss = (evO G sub lo ss).bind fun l => (evE G sub hi ss).bind fun x => (asInt x).bind fun h => lrngM (l.getD 0) h := by rw [evE]
@[simp] theorem evE_lset (a : E) (ss : List S) : evE G sub (.lset a) ss = (evE G sub a ss).bind fun x => lsetD x.view := by rw [evE]
@[simp] theorem evE_popr (a : E) (i : Option E) (ss : List S) : evE G sub (.popr a i) ss = (evE G sub a ss).bind fun x => (isLst x.view).bind fun _ => (evO G sub i ss).bind fun j => popL x.view j := by rw [evE]
variable {fuel : Nat}
@[simp] theorem evT_rins (a i e : E) (ss : List S) : evT G sub fuel (.rins a i e) ss = (evE G sub a ss).f ss fun o => (isLst o.view).f ss fun _ => (evE G sub i ss).f ss fun r => (asInt r).f ss fun j => (evE G sub e ss).f ss fun r => (r.fix).f ss fun d => (updL o.view fun xs => if 0 ≤ j ∧ j < 4611686018427387904 ∧ xs.length < 16777216 then some (xs.take j.toNat ++ [d] ++ xs.drop j.toNat) else none).f ss fun _ => .nx ss := by rw [evT]
@[simp] theorem retR_chn (a : E) (os : List PySem.CmpOp) (es : List E) (ss : List S) : retR G sub (.chn a os es) ss = (evE G sub (.chn a os es) ss).f ss rtR := rfl
@[simp] theorem retR_orV (a b : E) (ss : List S) : retR G sub (.orV a b) ss = (evE G sub (.orV a b) ss).f ss rtR := rfl
@[simp] theorem retR_sm (m : Sm) (a : E) (es : List E) (ss : List S) : retR G sub (.sm m a es) ss = (evE G sub (.sm m a es) ss).f ss rtR := rfl
@[simp] theorem retR_fs (es : List E) (ss : List S) : retR G sub (.fs es) ss = (evE G sub (.fs es) ss).f ss rtR := rfl
@[simp] theorem retR_lrng (lo : Option E) (hi : E) (ss : List S) : retR G sub (.lrng lo hi) ss = (evE G sub (.lrng lo hi) ss).f ss rtR := rfl
@[simp] theorem retR_lset (a : E) (ss : List S) : retR G sub (.lset a) ss = (evE G sub (.lset a) ss).f ss rtR := rfl
@[simp] theorem retR_popr (a : E) (i : Option E) (ss : List S) : retR G sub (.popr a i) ss = (evE G sub (.popr a i) ss).f ss rtR := rfl
end
@[simp] theorem Fin_nx (s : List S) : (F.nx s).fin = .ok (.val .non) := rfl
@[simp] theorem Fin_val (d : D) : (F.rt (.val d)).fin = .ok (.val d) := rfl
@[simp] theorem Fin_own (d : List D) : (F.rt (.own d)).fin = .ok (.own d) := rfl
@[simp] theorem Fin_ex (c : Nat) (s : List S) : (F.ex c s).fin = .ex c := rfl
@[simp] theorem strR_str (z : Str) : strR (.val (.str z)) = .ok z := rfl
theorem fmtD_str {y : Str} (h : y.length ≤ 16777216) : fmtD (.str y) = .ok y := by unfold fmtD guardM; dsimp only; rw [if_pos (decide_eq_true h)]
theorem fmtD_int {i : Int} (h : i.natAbs.log2 < 1920) : fmtD (.int i) = .ok (Str.ofString (toString i)) := by unfold fmtD guardM; dsimp only; rw [if_pos (decide_eq_true h)]
theorem intsOf_int (ns : List Int) : intsOf (ns.map .int) = some ns := by
  induction ns with
  | nil => rfl
  | cons n ns ih => rw [List.map_cons, intsOf, ih]; rfl
theorem strsOf_str (ns : List Str) : strsOf (ns.map .str) = some ns := by
  induction ns with
  | nil => rfl
  | cons n ns ih => rw [List.map_cons, strsOf, ih]; rfl
theorem boolsOf_bl (ns : List Bool) : boolsOf (ns.map .bl) = some ns := by
  induction ns with
  | nil => rfl
  | cons n ns ih => rw [List.map_cons, boolsOf, ih]; rfl
@[simp] theorem blt_srt (ns : List Int) : bltD .srt [.lst (ns.map .int)] = .ok (.own ((sortI ns).map .int)) := by
  show (M.ofO (intsOf (ns.map .int))).bind _ = _
  rw [intsOf_int]; rfl
@[simp] theorem blt_minl (ns : List Int) : bltD .minl [.lst (ns.map .int)] = (M.ofO ns.min?).bind fun n => .ok (.val (.int n)) := by
  show (M.ofO ((intsOf (ns.map .int)).bind List.min?)).bind _ = _
  rw [intsOf_int]; rfl
@[simp] theorem blt_maxl (ns : List Int) : bltD .maxl [.lst (ns.map .int)] = (M.ofO ns.max?).bind fun n => .ok (.val (.int n)) := by
  show (M.ofO ((intsOf (ns.map .int)).bind List.max?)).bind _ = _
  rw [intsOf_int]; rfl
@[simp] theorem blt_sum (ns : List Int) : bltD .sum [.lst (ns.map .int)] = .ok (.val (.int ns.sum)) := by
  show (M.ofO (intsOf (ns.map .int))).bind _ = _
  rw [intsOf_int]; rfl
@[simp] theorem blt_all (ns : List Bool) : bltD .all [.lst (ns.map .bl)] = .ok (.val (.bl (ns.all id))) := by
  show (M.ofO (boolsOf (ns.map .bl))).bind _ = _
  rw [boolsOf_bl]; rfl
@[simp] theorem blt_any (ns : List Bool) : bltD .any [.lst (ns.map .bl)] = .ok (.val (.bl (ns.any id))) := by
  show (M.ofO (boolsOf (ns.map .bl))).bind _ = _
  rw [boolsOf_bl]; rfl
theorem blt_len_str {z : Str} (h : z.length ≤ 16777216) : bltD .len [.str z] = .ok (.val (.int z.length)) := by
  show guardM (decide (z.length ≤ 16777216)) _ = _
  unfold guardM; rw [if_pos (decide_eq_true h)]
theorem blt_str {i : Int} (h : i.natAbs.log2 < 1920) : bltD .str [.int i] = .ok (.val (.str (Str.ofString (toString i)))) := by
  show guardM (decide (i.natAbs.log2 < 1920)) _ = _
  unfold guardM; rw [if_pos (decide_eq_true h)]
theorem popL_last {n : Nat} {st : Store} {xs : List D} {y : D} (h : st[n]? = some (.lst (xs ++ [y]))) : popL (.obj n) none st = .ok (.val y) (st.set n (.lst xs)) := by
  unfold popL M.get
  dsimp only
  rw [h]
  have e : popAt (xs ++ [y]) none = some (y, xs) := by unfold popAt; simp
  dsimp only
  rw [e]
  dsimp only
  rw [bind_app, show updL (.obj n) (fun _ => some xs) st = .ok () (st.set n (.lst xs)) from updL_at h rfl]
  rfl
theorem popL_at {n : Nat} {st : Store} {xs : List D} {i : Int} {y : D} (h : st[n]? = some (.lst xs)) (h0 : 0 ≤ i) (h1 : i < 4611686018427387904) (h2 : xs[i.toNat]? = some y) : popL (.obj n) (some i) st = .ok (.val y) (st.set n (.lst (xs.eraseIdx i.toNat))) := by
  unfold popL M.get
  dsimp only
  rw [h]
  have hl := (List.getElem?_eq_some_iff.mp h2).1
  have e : popAt xs (some i) = some (y, xs.eraseIdx i.toNat) := by unfold popAt; dsimp only; rw [if_pos ⟨h0, h1, by omega⟩, h2]; rfl
  dsimp only
  rw [e]
  dsimp only
  rw [bind_app, show updL (.obj n) (fun _ => some (xs.eraseIdx i.toNat)) st = .ok () (st.set n (.lst (xs.eraseIdx i.toNat))) from updL_at h rfl]
  rfl
/-- a for with an invariant -/
theorem forL_inv {g : D → List S → M (List S)} {b : List S → F} (P : Nat → List S → Prop)
    (ds : List D) (ss : List S) (h0 : P 0 ss)
    (hs : ∀ (i : Nat) (d : D) (s : List S), ds[i]? = some d → P i s → ∃ s1, g d s = .ok s1 ∧ ∃ s', b s1 = .nx s' ∧ P (i + 1) s') :
    ∃ s', forL [] g b ds ss = .nx s' ∧ P ds.length s' := by
  suffices H : ∀ (r : List D) (i : Nat) (s : List S), ds.drop i = r → i ≤ ds.length → P i s → ∃ s', forL [] g b r s = .nx s' ∧ P ds.length s' from H ds 0 ss rfl (Nat.zero_le _) h0
  intro r
  induction r with
  | nil =>
    intro i s hr hi hp
    have : ds.length ≤ i := List.drop_eq_nil_iff.mp hr
    have : i = ds.length := by omega
    subst this
    exact ⟨s, forL_nil0, hp⟩
  | cons d r ih =>
    intro i s hr hi hp
    have hl : i < ds.length := by
      refine Nat.lt_of_not_le fun h => ?_
      rw [List.drop_eq_nil_of_le h] at hr; cases hr
    have hd : ds[i]? = some d := by
      have := List.getElem?_drop (xs := ds) (i := i) (j := 0)
      rw [hr] at this
      simpa using this.symm
    obtain ⟨s1, h1, s', h2, h3⟩ := hs i d s hd hp
    have hr' : ds.drop (i + 1) = r := by
      have := congrArg List.tail hr
      rw [List.tail_drop] at this
      exact this
    obtain ⟨s'', h4, h5⟩ := ih (i + 1) s' hr' (by omega) h3
    exact ⟨s'', by simp only [forL_cons0, h1, h2, M_f_ok, loop_nx, loop_bk, loop_rt]; exact h4, h5⟩
/-- a for with an invariant that may end early with a break -/
theorem forL_invb {g : D → List S → M (List S)} {b : List S → F} (P : Nat → List S → Prop) (Q : List S → Prop)
    (ds : List D) (ss : List S) (h0 : P 0 ss) (hQ : ∀ s, P ds.length s → Q s)
    (hs : ∀ (i : Nat) (d : D) (s : List S), ds[i]? = some d → P i s → ∃ s1, g d s = .ok s1 ∧ ∃ s', (b s1 = .nx s' ∧ P (i + 1) s' ∨ b s1 = .bk s' ∧ Q s')) :
    ∃ s', forL [] g b ds ss = .nx s' ∧ Q s' := by
  suffices H : ∀ (r : List D) (i : Nat) (s : List S), ds.drop i = r → i ≤ ds.length → P i s → ∃ s', forL [] g b r s = .nx s' ∧ Q s' from H ds 0 ss rfl (Nat.zero_le _) h0
  intro r
  induction r with
  | nil =>
    intro i s hr hi hp
    have : ds.length ≤ i := List.drop_eq_nil_iff.mp hr
    have : i = ds.length := by omega
    subst this
    exact ⟨s, forL_nil0, hQ s hp⟩
  | cons d r ih =>
    intro i s hr hi hp
    have hl : i < ds.length := by
      refine Nat.lt_of_not_le fun h => ?_
      rw [List.drop_eq_nil_of_le h] at hr; cases hr
    have hd : ds[i]? = some d := by
      have := List.getElem?_drop (xs := ds) (i := i) (j := 0)
      rw [hr] at this
      simpa using this.symm
    obtain ⟨s1, h1, s', h2⟩ := hs i d s hd hp
    have hr' : ds.drop (i + 1) = r := by
      have := congrArg List.tail hr
      rw [List.tail_drop] at this
      exact this
    rcases h2 with ⟨h2, h3⟩ | ⟨h2, h3⟩
    · obtain ⟨s'', h4, h5⟩ := ih (i + 1) s' hr' (by omega) h3
      exact ⟨s'', by simp only [forL_cons0, h1, h2, M_f_ok, loop_nx, loop_bk, loop_rt]; exact h4, h5⟩
    · exact ⟨s', by simp only [forL_cons0, h1, h2, M_f_ok, loop_nx, loop_bk, loop_rt], h3⟩
/-- a for with an invariant that may end early with a return -/
theorem forL_rt {g : D → List S → M (List S)} {b : List S → F} (P : Nat → List S → Prop) (Q : R → Prop)
    (ds : List D) (ss : List S) (h0 : P 0 ss)
    (hs : ∀ (i : Nat) (d : D) (s : List S), ds[i]? = some d → P i s → ∃ s1, g d s = .ok s1 ∧ ((∃ s', b s1 = .nx s' ∧ P (i + 1) s') ∨ ∃ r, b s1 = .rt r ∧ Q r)) :
    (∃ s', forL [] g b ds ss = .nx s' ∧ P ds.length s') ∨ ∃ r, forL [] g b ds ss = .rt r ∧ Q r := by
  suffices H : ∀ (r : List D) (i : Nat) (s : List S), ds.drop i = r → i ≤ ds.length → P i s → (∃ s', forL [] g b r s = .nx s' ∧ P ds.length s') ∨ ∃ q, forL [] g b r s = .rt q ∧ Q q from H ds 0 ss rfl (Nat.zero_le _) h0
  intro r
  induction r with
  | nil =>
    intro i s hr hi hp
    have : ds.length ≤ i := List.drop_eq_nil_iff.mp hr
    have : i = ds.length := by omega
    subst this
    exact .inl ⟨s, forL_nil0, hp⟩
  | cons d r ih =>
    intro i s hr hi hp
    have hl : i < ds.length := by
      refine Nat.lt_of_not_le fun h => ?_
      rw [List.drop_eq_nil_of_le h] at hr; cases hr
    have hd : ds[i]? = some d := by
      have := List.getElem?_drop (xs := ds) (i := i) (j := 0)
      rw [hr] at this
      simpa using this.symm
    obtain ⟨s1, h1, h2⟩ := hs i d s hd hp
    have hr' : ds.drop (i + 1) = r := by
      have := congrArg List.tail hr
      rw [List.tail_drop] at this
      exact this
    rcases h2 with ⟨s', h2, h3⟩ | ⟨q, h2, h3⟩
    · rcases ih (i + 1) s' hr' (by omega) h3 with ⟨s'', h4, h5⟩ | ⟨s'', h4, h5⟩
      · exact .inl ⟨s'', by simp only [forL_cons0, h1, h2, M_f_ok, loop_nx, loop_bk, loop_rt]; exact h4, h5⟩
      · exact .inr ⟨s'', by simp only [forL_cons0, h1, h2, M_f_ok, loop_nx, loop_bk, loop_rt]; exact h4, h5⟩
    · exact .inr ⟨q, by simp only [forL_cons0, h1, h2, M_f_ok, loop_nx, loop_bk, loop_rt], h3⟩
/-- a def that the whole Env has stands further down, too -/
theorem has_in {sub : Sub} {fuel i : Nat} {P : (List D → M R) → Prop} {ds r : List Def} (e : findDef i r = findDef i ds) (hs : (findDef i ds).isSome = true) (h : Has (envOf sub fuel ds) i P) : Has (envOf sub fuel r) i P := by
  obtain ⟨g, g1, g2⟩ := h
  obtain ⟨⟨d, q⟩, e2⟩ := Option.isSome_iff_exists.mp hs
  rw [envOf_find e2] at g1
  exact ⟨g, by rw [envOf_find (e.trans e2)]; exact g1, g2⟩
/-- one def more ahead -/
theorem has_up {sub : Sub} {fuel i : Nat} {P : (List D → M R) → Prop} {d : Def} {ds : List Def} (hne : decide (i = d.id) = false) (h : Has (envOf sub fuel ds) i P) : Has (envOf sub fuel (d :: ds)) i P := by
  obtain ⟨g, g1, g2⟩ := h
  exact ⟨g, (show (if i = d.id then _ else envOf sub fuel ds i) = some g by rw [if_neg (of_decide_eq_false hne)]; exact g1), g2⟩
theorem has_top {sub : Sub} {fuel i : Nat} {P : (List D → M R) → Prop} {d : Def} {ds : List Def} (he : decide (i = d.id) = true) (hp : P (d.fn.run (envOf sub fuel ds) sub fuel)) : Has (envOf sub fuel (d :: ds)) i P :=
  ⟨_, (show (if i = d.id then some (d.fn.run (envOf sub fuel ds) sub fuel) else envOf sub fuel ds i) = some _ by rw [if_pos (of_decide_eq_true he)]), hp⟩
end EV

set_option linter.all false
set_option autoImplicit false
namespace EV
/-! EvQ1: pairs in lowest terms are the rational numbers. -/
def rt (n d : Int) : D := .tup [.int n, .int d]
def rn (n d : Int) : Int := if d < 0 then -n / Int.gcd n d else n / Int.gcd n d
def rd (n d : Int) : Int := if d < 0 then -d / Int.gcd n d else d / Int.gcd n d
/-- a rational number, as the program has it -/
def qd (q : Rat) : D := .tup [.int q.num, .int q.den]
/-- its size -/
def QS (q : Rat) (k : Nat) : Prop := Sz q.num k ∧ Sz q.den k
theorem rn_eq (n d : Int) (hd : d ≠ 0) : ∃ a b : Int, n = Int.gcd n d * a ∧ d = Int.gcd n d * b ∧ b ≠ 0 ∧ Int.gcd a b = 1 ∧ rn n d = (if d < 0 then -a else a) ∧ rd n d = (if d < 0 then -b else b) := by
  have hp : 0 < Int.gcd n d := Int.gcd_pos_iff.mpr (.inr hd)
  have hp' : (Int.gcd n d : Int) ≠ 0 := by omega
  have h1 := Int.gcd_dvd_left n d
  have h2 := Int.gcd_dvd_right n d
  have h3 := Int.gcd_ediv_gcd_ediv_gcd hp
  refine ⟨n / Int.gcd n d, d / Int.gcd n d, (Int.mul_ediv_cancel' h1).symm, (Int.mul_ediv_cancel' h2).symm, ?_, h3, ?_, ?_⟩
  · intro h
    have := (Int.mul_ediv_cancel' h2)
    rw [h, Int.mul_zero] at this
    exact hd this.symm
  · unfold rn; split
    · rw [← Int.neg_ediv_of_dvd h1]
    · rfl
  · unfold rd; split
    · rw [← Int.neg_ediv_of_dvd h2]
    · rfl
theorem rn_mul (n d : Int) (hd : d ≠ 0) : rn n d * d = n * rd n d := by
  obtain ⟨a, b, h1, h2, h3, h4, h5, h6⟩ := rn_eq n d hd
  rw [h5, h6]
  generalize hg : (Int.gcd n d : Int) = g at *
  split <;> grind
theorem rd_pos (n d : Int) (hd : d ≠ 0) : 1 ≤ rd n d := by
  obtain ⟨a, b, h1, h2, h3, h4, h5, h6⟩ := rn_eq n d hd
  have hp : (0 : Int) < (Int.gcd n d : Int) := by have := Int.gcd_pos_iff.mpr (.inr hd : n ≠ 0 ∨ d ≠ 0); omega
  rw [h6]
  generalize (Int.gcd n d : Int) = g at *
  split
  · rename_i h
    have : b < 0 := by
      refine Int.not_le.mp fun hb => ?_
      have := Int.mul_nonneg (Int.le_of_lt hp) hb
      omega
    omega
  · rename_i h
    have : 0 < b := by
      refine Int.not_le.mp fun hb => ?_
      have := Int.mul_nonneg (Int.le_of_lt hp) (by omega : 0 ≤ -b)
      rw [Int.mul_neg] at this
      have h7 : g * b ≠ 0 := Int.mul_ne_zero (by omega) h3
      omega
    omega
theorem rn_gcd (n d : Int) (hd : d ≠ 0) : Int.gcd (rn n d) (rd n d) = 1 := by
  obtain ⟨a, b, h1, h2, h3, h4, h5, h6⟩ := rn_eq n d hd
  rw [h5, h6]
  split <;> simp [Int.gcd_neg, Int.neg_gcd, h4]
theorem rn_sz {n d : Int} {k : Nat} (h : Sz n k) : Sz (rn n d) k := by
  unfold rn; split
  · exact h.neg.ediv
  · exact h.ediv
theorem rd_sz {n d : Int} {k : Nat} (h : Sz d k) : Sz (rd n d) k := by
  unfold rd; split
  · exact h.neg.ediv
  · exact h.ediv
/-- a pair in lowest terms is the number -/
theorem q_of {p q : Int} (h1 : 1 ≤ q) (h2 : Int.gcd p q = 1) : (Rat.divInt p q).num = p ∧ ((Rat.divInt p q).den : Int) = q := by
  rw [Rat.num_divInt, Rat.den_divInt, if_neg (by omega), Int.gcd_comm, h2]
  refine ⟨?_, ?_⟩
  · rw [Int.sign_eq_one_of_pos (by omega)]; simp
  · simp; omega
theorem divInt_eq {n d p q : Int} (hd : d ≠ 0) (hq : q ≠ 0) (h : p * d = n * q) : Rat.divInt n d = Rat.divInt p q := by
  rw [Rat.divInt_eq_divInt_iff hd hq]; exact h.symm
theorem rt_q (n d : Int) (hd : d ≠ 0) : rt (rn n d) (rd n d) = qd (Rat.divInt n d) := by
  have h1 := rd_pos n d hd
  rw [divInt_eq hd (by omega) (rn_mul n d hd)]
  obtain ⟨h2, h3⟩ := q_of h1 (rn_gcd n d hd)
  unfold rt qd
  rw [h2, h3]
theorem q_num (n d : Int) (hd : d ≠ 0) : (Rat.divInt n d).num = rn n d ∧ ((Rat.divInt n d).den : Int) = rd n d := by
  have h1 := rd_pos n d hd
  rw [divInt_eq hd (by omega) (rn_mul n d hd)]
  exact q_of h1 (rn_gcd n d hd)
theorem den_pos (q : Rat) : (0 : Int) < q.den := by have := q.den_pos; omega
theorem den_ne (q : Rat) : (q.den : Int) ≠ 0 := by have := q.den_pos; omega
namespace QS
variable {a b : Rat} {k m : Nat}
theorem mono (h : QS a k) (hk : k ≤ m) : QS a m := ⟨h.1.mono hk, h.2.mono hk⟩
theorem divInt {n d : Int} (hd : d ≠ 0) (h : Sz n k) (h' : Sz d k) : QS (Rat.divInt n d) k := by
  obtain ⟨h1, h2⟩ := q_num n d hd
  unfold QS
  rw [h1, h2]
  exact ⟨rn_sz h, rd_sz h'⟩
theorem neg (h : QS a k) : QS (-a) k := by
  unfold QS; rw [Rat.neg_num, Rat.neg_den]; exact ⟨h.1.neg, h.2⟩
end QS
theorem q_add (a b : Rat) : Rat.divInt (a.num * b.den + b.num * a.den) (a.den * b.den) = a + b := by
  conv => rhs; rw [← Rat.num_divInt_den a, ← Rat.num_divInt_den b]
  rw [Rat.divInt_add_divInt _ _ (den_ne a) (den_ne b)]
theorem q_mul (a b : Rat) : Rat.divInt (a.num * b.num) (a.den * b.den) = a * b := by
  conv => rhs; rw [← Rat.num_divInt_den a, ← Rat.num_divInt_den b]
  rw [Rat.divInt_mul_divInt _ _]
theorem q_div (a b : Rat) : Rat.divInt (a.num * b.den) (a.den * b.num) = a / b := by
  rw [Rat.div_def]
  conv => rhs; rw [← Rat.num_divInt_den a, ← Rat.num_divInt_den b]
  rw [Rat.inv_divInt, Rat.divInt_mul_divInt]
namespace QS
variable {a b : Rat} {k m : Nat}
theorem add (h : QS a k) (h' : QS b m) : QS (a + b) (k + m + 1) := by
  rw [← q_add]
  refine divInt (Int.mul_ne_zero (den_ne a) (den_ne b)) ((Sz.add' (Sz.mul h.1 h'.2) (Sz.mul h'.1 h.2)).mono (by omega)) ((Sz.mul h.2 h'.2).mono (by omega))
theorem mul (h : QS a k) (h' : QS b m) : QS (a * b) (k + m) := by
  rw [← q_mul]
  exact divInt (Int.mul_ne_zero (den_ne a) (den_ne b)) (Sz.mul h.1 h'.1) (Sz.mul h.2 h'.2)
theorem div (h : QS a k) (h' : QS b m) (hb : b ≠ 0) : QS (a / b) (k + m) := by
  rw [← q_div]
  exact divInt (Int.mul_ne_zero (den_ne a) (by rw [Ne, Rat.num_eq_zero]; exact hb)) (Sz.mul h.1 h'.2) (Sz.mul h.2 h'.1)
theorem sub (h : QS a k) (h' : QS b m) : QS (a - b) (k + m + 1) := by rw [Rat.sub_eq_add_neg]; exact add h h'.neg
theorem zero : QS 0 1 := ⟨by unfold Sz; decide, by unfold Sz; decide⟩
theorem one : QS 1 1 := ⟨by unfold Sz; decide, by unfold Sz; decide⟩
theorem ofInt {i : Int} (h : Sz i k) (hk : 1 ≤ k) : QS (i : Rat) k := by
  unfold QS; rw [Rat.num_intCast, Rat.den_intCast]; exact ⟨h, Sz.mono (k := 1) (by unfold Sz; decide) hk⟩
end QS
theorem qd_int (i : Int) : qd (i : Rat) = .tup [.int i, .int 1] := by unfold qd; rw [Rat.num_intCast, Rat.den_intCast]; rfl
theorem qd_zero : qd 0 = .tup [.int 0, .int 1] := rfl
theorem qd_one : qd 1 = .tup [.int 1, .int 1] := rfl
theorem qd_wf (q : Rat) (n : Nat) : wf (n + 1) (qd q) = true := by unfold qd; simp [wf]
theorem qd_eq (a b : Rat) : eqD (qd a) (qd b) = decide (a = b) := by
  unfold qd
  simp only [eqD, eqDs, Bool.and_true]
  rw [Bool.beq_eq_decide_eq, Bool.beq_eq_decide_eq, ← Bool.decide_and, decide_eq_decide]
  constructor
  · rintro ⟨h1, h2⟩; exact Rat.ext h1 (by omega)
  · rintro rfl; exact ⟨rfl, rfl⟩
theorem q_sub_num (a b : Rat) : (a.num * b.den - b.num * a.den < 0 ↔ a < b) ∧ (a.num * b.den - b.num * a.den = 0 ↔ a = b) := by
  refine ⟨?_, ?_⟩
  · rw [Rat.lt_iff]; omega
  · constructor
    · intro h
      refine Rat.le_antisymm ?_ ?_ <;> rw [Rat.le_iff] <;> omega
    · rintro rfl; omega
end EV

set_option linter.all false
set_option autoImplicit false
set_option maxRecDepth 100000
namespace EV
def b__law_stream : List T := [
  .asg (.nm 1) (.lst []),
  .forr (.nm 2) (.seq (.sl (.var 0) none (some (.k (.int 63))))) [.asg (.nm 3) (.blt .int [.var 2]), .iff (.cmp .GtE (.var 3) (.op .Pow (.k (.int 10)) (.k (.int 18)))) [.forr (.nm 4) (.rng [.k (.int 60)]) [.app 1 (.op .Mod (.blt .int [.var 3]) (.k (.int 1009))), .asg (.nm 3) (.op .FloorDiv (.var 3) (.k (.int 1009))), .iff (.cmp .Eq (.var 3) (.k (.int 0))) [.brk] []]] [.asg (.nm 5) (.op .Mod (.blt .int [.var 3]) (.k (.int 2147483647))), .forr (.nm 4) (.rng [.k (.int 10)]) [.asg (.nm 5) (.op .Mod (.blt .int [.op .Add (.op .Add (.op .Mult (.var 5) (.k (.int 48271))) (.op .Mult (.k (.int 7)) (.var 4))) (.k (.int 11))]) (.k (.int 2147483647))), .app 1 (.op .Mod (.op .Mod (.blt .int [.op .Add (.op .Mult (.var 5) (.k (.int 69621))) (.var 4)]) (.k (.int 2147483629))) (.k (.int 1009)))]]],
  .iff (.cmp .Eq (.blt .len [.var 1]) (.k (.int 0))) [.app 1 (.k (.int 0))] [],
  .ret (.var 1)]
def d__law_stream : Def := ⟨5, "_law_stream", ["_law_script"], ["_law_script", "_law_numbers", "_law_cell", "_law_rest", "_law_k", "_law_mixed"], b__law_stream, false, none⟩
def b__law_pick : List T := [
  .ret (.op .Mod (.blt .int [.ix (.var 0) (.op .Mod (.var 1) (.blt .len [.var 0]))]) (.var 2))]
def d__law_pick : Def := ⟨2, "_law_pick", ["_law_numbers", "_law_at", "_law_many"], ["_law_numbers", "_law_at", "_law_many"], b__law_pick, false, none⟩
def b__law_int : List T := [
  .asg (.nm 2) (.call 2 [.var 0, .var 1, .k (.int 6)]),
  .asg (.nm 3) (.ix (.lst [.k (.int 1), .neg (.k (.int 1))]) (.call 2 [.var 0, .op .Add (.var 1) (.k (.int 1)), .k (.int 2)])),
  .iff (.cmp .Eq (.var 2) (.k (.int 0))) [.ret (.ix (.lst [.k (.int 0), .k (.int 1), .neg (.k (.int 1)), .k (.int 2)]) (.call 2 [.var 0, .op .Add (.var 1) (.k (.int 2)), .k (.int 4)]))] [],
  .iff (.cmp .Lt (.var 2) (.k (.int 4))) [.ret (.op .Mult (.var 3) (.call 2 [.var 0, .op .Add (.var 1) (.k (.int 2)), .ix (.lst [.k (.int 12), .k (.int 60), .k (.int 1009)]) (.op .Sub (.var 2) (.k (.int 1)))]))] [],
  .asg (.nm 4) (.k (.int 0)),
  .forr (.nm 5) (.rng [.op .Add (.k (.int 1)) (.call 2 [.var 0, .op .Add (.var 1) (.k (.int 2)), .k (.int 12)])]) [.asg (.nm 4) (.op .Add (.op .Mult (.var 4) (.k (.int 1009))) (.call 2 [.var 0, .op .Add (.op .Add (.var 1) (.k (.int 3))) (.var 5), .k (.int 1009)]))],
  .ret (.op .Mult (.var 3) (.var 4))]
def d__law_int : Def := ⟨6, "_law_int", ["_law_numbers", "_law_at"], ["_law_numbers", "_law_at", "_law_way", "_law_sign", "_law_value", "_law_k"], b__law_int, false, none⟩
def b_common : List T := [
  .asg (.nm 0) (.blt .abs [.var 0]),
  .asg (.nm 1) (.blt .abs [.var 1]),
  .whl (.cmp .NotEq (.var 1) (.k (.int 0))) [.frz 1, .par [0, 1] [.var 1, .op .Mod (.var 0) (.var 1)]],
  .ret (.var 0)]
def d_common : Def := ⟨1, "common", ["first", "second"], ["first", "second"], b_common, false, none⟩
def b_ratio : List T := [
  .iff (.cmp .Eq (.var 1) (.k (.int 0))) [.rais 1] [],
  .iff (.cmp .Lt (.var 1) (.k (.int 0))) [.asg (.nm 0) (.neg (.var 0)), .asg (.nm 1) (.neg (.var 1))] [],
  .asg (.nm 2) (.call 1 [.var 0, .var 1]),
  .ret (.tup [.op .FloorDiv (.var 0) (.var 2), .op .FloorDiv (.var 1) (.var 2)])]
def d_ratio : Def := ⟨4, "ratio", ["n", "d"], ["n", "d", "divisor"], b_ratio, false, none⟩
def b_is_ratio : List T := [
  .ret (.and (.cmp .Eq (.blt .len [.var 0]) (.k (.int 2))) (.and (.cmp .GtE (.ix (.var 0) (.k (.int 1))) (.k (.int 1))) (.one (.cmp .Eq (.call 1 [.ix (.var 0) (.k (.int 0)), .ix (.var 0) (.k (.int 1))]) (.k (.int 1))))))]
def d_is_ratio : Def := ⟨8, "is_ratio", ["pair"], ["pair"], b_is_ratio, false, none⟩
def b__law_gcd : List T := [
  .asg (.nm 0) (.blt .abs [.var 0]),
  .asg (.nm 1) (.blt .abs [.var 1]),
  .forr (.nm 2) (.rng [.k (.int 40000)]) [.iff (.cmp .Eq (.var 1) (.k (.int 0))) [.brk] [], .frz 1, .par [0, 1] [.var 1, .op .Mod (.blt .int [.var 0]) (.var 1)]],
  .ret (.var 0)]
def d__law_gcd : Def := ⟨3, "_law_gcd", ["_law_first", "_law_second"], ["_law_first", "_law_second", "_law_k"], b__law_gcd, false, none⟩
def b_of_int : List T := [
  .ret (.tup [.var 0, .k (.int 1)])]
def d_of_int : Def := ⟨10, "of_int", ["n"], ["n"], b_of_int, false, none⟩
def b__law_ratio : List T := [
  .iff (.cmp .Lt (.var 1) (.k (.int 0))) [.asg (.nm 0) (.op .Sub (.k (.int 0)) (.var 0)), .asg (.nm 1) (.op .Sub (.k (.int 0)) (.var 1))] [],
  .frz 0,
  .frz 1,
  .asg (.nm 2) (.call 3 [.var 0, .var 1]),
  .ret (.tup [.op .FloorDiv (.var 0) (.var 2), .op .FloorDiv (.var 1) (.var 2)])]
def d__law_ratio : Def := ⟨14, "_law_ratio", ["_law_n", "_law_d"], ["_law_n", "_law_d", "_law_divisor"], b__law_ratio, false, none⟩
def b__law_plus : List T := [
  .ret (.call 14 [.op .Add (.op .Mult (.ix (.var 0) (.k (.int 0))) (.ix (.var 1) (.k (.int 1)))) (.op .Mult (.ix (.var 1) (.k (.int 0))) (.ix (.var 0) (.k (.int 1)))), .op .Mult (.ix (.var 0) (.k (.int 1))) (.ix (.var 1) (.k (.int 1)))])]
def d__law_plus : Def := ⟨21, "_law_plus", ["_law_first", "_law_second"], ["_law_first", "_law_second"], b__law_plus, false, none⟩
def b_plus : List T := [
  .ret (.call 4 [.op .Add (.op .Mult (.ix (.var 0) (.k (.int 0))) (.ix (.var 1) (.k (.int 1)))) (.op .Mult (.ix (.var 1) (.k (.int 0))) (.ix (.var 0) (.k (.int 1)))), .op .Mult (.ix (.var 0) (.k (.int 1))) (.ix (.var 1) (.k (.int 1)))])]
def d_plus : Def := ⟨11, "plus", ["first", "second"], ["first", "second"], b_plus, false, none⟩
def b_negated : List T := [
  .ret (.tup [.neg (.ix (.var 0) (.k (.int 0))), .ix (.var 0) (.k (.int 1))])]
def d_negated : Def := ⟨12, "negated", ["first"], ["first"], b_negated, false, none⟩
def b_minus : List T := [
  .ret (.call 11 [.var 0, .call 12 [.var 1]])]
def d_minus : Def := ⟨15, "minus", ["first", "second"], ["first", "second"], b_minus, false, none⟩
def b_times : List T := [
  .ret (.call 4 [.op .Mult (.ix (.var 0) (.k (.int 0))) (.ix (.var 1) (.k (.int 0))), .op .Mult (.ix (.var 0) (.k (.int 1))) (.ix (.var 1) (.k (.int 1)))])]
def d_times : Def := ⟨16, "times", ["first", "second"], ["first", "second"], b_times, false, none⟩
def b_sign_of : List T := [
  .iff (.cmp .Eq (.ix (.var 0) (.k (.int 0))) (.k (.int 0))) [.ret (.k (.int 0))] [],
  .ret (.ite (.cmp .Gt (.ix (.var 0) (.k (.int 0))) (.k (.int 0))) (.k (.int 1)) (.neg (.k (.int 1))))]
def d_sign_of : Def := ⟨13, "sign_of", ["first"], ["first"], b_sign_of, false, none⟩
def b_compare : List T := [
  .ret (.call 13 [.tup [.op .Sub (.op .Mult (.ix (.var 0) (.k (.int 0))) (.ix (.var 1) (.k (.int 1)))) (.op .Mult (.ix (.var 1) (.k (.int 0))) (.ix (.var 0) (.k (.int 1)))), .k (.int 1)]])]
def d_compare : Def := ⟨17, "compare", ["first", "second"], ["first", "second"], b_compare, false, none⟩
def b__law_order : List T := [
  .ret (.op .Sub (.blt .int [.cmp .Gt (.var 0) (.k (.int 0))]) (.blt .int [.cmp .Lt (.var 0) (.k (.int 0))]))]
def d__law_order : Def := ⟨18, "_law_order", ["_law_number"], ["_law_number"], b__law_order, false, none⟩
def b_floor_of : List T := [
  .ret (.op .FloorDiv (.ix (.var 0) (.k (.int 0))) (.ix (.var 0) (.k (.int 1))))]
def d_floor_of : Def := ⟨19, "floor_of", ["first"], ["first"], b_floor_of, false, none⟩
def b_over : List T := [
  .ret (.call 4 [.op .Mult (.ix (.var 0) (.k (.int 0))) (.ix (.var 1) (.k (.int 1))), .op .Mult (.ix (.var 0) (.k (.int 1))) (.ix (.var 1) (.k (.int 0)))])]
def d_over : Def := ⟨20, "over", ["first", "second"], ["first", "second"], b_over, false, none⟩
def b_check_row : List T := [
  .iff (.or (.cmp .Lt (.blt .len [.var 0]) (.k (.int 1))) (.or (.cmp .Gt (.blt .len [.var 0]) (.gl "MAX_WIDTH" (.int 24))) (.one (.not (.blt .all [.lc [1] (.nm 1) (.seq (.var 0)) none (.call 8 [.var 1])]))))) [.rais 1] []]
def d_check_row : Def := ⟨32, "check_row", ["row"], ["row", "one"], b_check_row, false, none⟩
def b_zero_row : List T := [
  .iff (.or (.cmp .Lt (.var 0) (.k (.int 1))) (.one (.cmp .Gt (.var 0) (.gl "MAX_WIDTH" (.int 24))))) [.rais 1] [],
  .ret (.blt .tuple [.lc [1] (.nm 1) (.rng [.var 0]) none (.call 10 [.k (.int 0)])])]
def d_zero_row : Def := ⟨29, "zero_row", ["width"], ["width", "_"], b_zero_row, false, none⟩
def b_unit_row : List T := [
  .asg (.nm 2) (.call 29 [.var 0]),
  .iff (.or (.cmp .Lt (.var 1) (.k (.int 0))) (.one (.cmp .GtE (.var 1) (.var 0)))) [.rais 1] [],
  .ret (.op .Add (.op .Add (.sl (.var 2) none (some (.var 1))) (.tup [.call 10 [.k (.int 1)]])) (.sl (.var 2) (some (.op .Add (.var 1) (.k (.int 1)))) none))]
def d_unit_row : Def := ⟨33, "unit_row", ["width", "index"], ["width", "index", "row"], b_unit_row, false, none⟩
def b_row_of_ints : List T := [
  .iff (.or (.cmp .Lt (.blt .len [.var 0]) (.k (.int 1))) (.one (.cmp .Gt (.blt .len [.var 0]) (.gl "MAX_WIDTH" (.int 24))))) [.rais 1] [],
  .ret (.blt .tuple [.lc [1] (.nm 1) (.seq (.var 0)) none (.call 10 [.var 1])])]
def d_row_of_ints : Def := ⟨34, "row_of_ints", ["numbers"], ["numbers", "number"], b_row_of_ints, false, none⟩
def b_check_widths : List T := [
  .iff (.cmp .NotEq (.blt .len [.var 0]) (.blt .len [.var 1])) [.rais 1] []]
def d_check_widths : Def := ⟨30, "check_widths", ["first", "second"], ["first", "second"], b_check_widths, false, none⟩
def b_add_rows : List T := [
  .exp (.call 30 [.var 0, .var 1]),
  .ret (.blt .tuple [.lc [2, 3] (.tup [.nm 2, .nm 3]) (.zip (.var 0) (.var 1)) none (.call 11 [.var 2, .var 3])])]
def d_add_rows : Def := ⟨35, "add_rows", ["first", "second"], ["first", "second", "one", "other"], b_add_rows, false, none⟩
def b_product : List T := [
  .exp (.call 30 [.var 0, .var 1]),
  .asg (.nm 2) (.call 10 [.k (.int 0)]),
  .forr (.tup [.nm 3, .nm 4]) (.zip (.var 0) (.var 1)) [.frz 2, .asg (.nm 2) (.call 11 [.var 2, .call 16 [.var 3, .var 4]])],
  .ret (.var 2)]
def d_product : Def := ⟨36, "product", ["first", "second"], ["first", "second", "total", "one", "other"], b_product, false, none⟩
def b_scale_row : List T := [
  .ret (.blt .tuple [.lc [2] (.nm 2) (.seq (.var 1)) none (.call 16 [.var 0, .var 2])])]
def d_scale_row : Def := ⟨40, "scale_row", ["factor", "row"], ["factor", "row", "one"], b_scale_row, false, none⟩
def b__law_times : List T := [
  .ret (.call 14 [.op .Mult (.ix (.var 0) (.k (.int 0))) (.ix (.var 1) (.k (.int 0))), .op .Mult (.ix (.var 0) (.k (.int 1))) (.ix (.var 1) (.k (.int 1)))])]
def d__law_times : Def := ⟨31, "_law_times", ["_law_first", "_law_second"], ["_law_first", "_law_second"], b__law_times, false, none⟩
def b_value_at : List T := [
  .ret (.call 11 [.call 36 [.ix (.var 0) (.k (.int 0)), .var 1], .ix (.var 0) (.k (.int 1))])]
def d_value_at : Def := ⟨43, "value_at", ["form", "row"], ["form", "row"], b_value_at, false, none⟩
def b_add_forms : List T := [
  .ret (.tup [.call 35 [.ix (.var 0) (.k (.int 0)), .ix (.var 1) (.k (.int 0))], .call 11 [.ix (.var 0) (.k (.int 1)), .ix (.var 1) (.k (.int 1))]])]
def d_add_forms : Def := ⟨44, "add_forms", ["first", "second"], ["first", "second"], b_add_forms, false, none⟩
def b_scale_form : List T := [
  .ret (.tup [.call 40 [.var 0, .ix (.var 1) (.k (.int 0))], .call 16 [.var 0, .ix (.var 1) (.k (.int 1))]])]
def d_scale_form : Def := ⟨46, "scale_form", ["factor", "form"], ["factor", "form"], b_scale_form, false, none⟩
end EV

set_option linter.all false
set_option autoImplicit false
namespace EV
/-- common -/
def PGcd (m : Nat) (g : List D → M R) : Prop := ∀ a b : Int, Sz b m → g [.int a, .int b] = .ok (.val (.int (Int.gcd a b)))
theorem ok_common {G : Env} {sub : Sub} {fuel m : Nat} (hf : 2 * m + 1 ≤ fuel) : PGcd m (d_common.fn.run G sub fuel) := by
  intro a b hb
  have e : loopW G sub fuel (.cmp .NotEq (.var 1) (.k (.int 0))) [.frz 1, .par [0, 1] [.var 1, .op .Mod (.var 0) (.var 1)]] fuel [.val (.int (a.natAbs : Int)), .val (.int (b.natAbs : Int))] = _ := euclid_while
    (by intro x y
        simp [condB])
    (by intro x y hx hy
        simp [opD_mod hy])
    m fuel a.natAbs b.natAbs hb hf
  rw [d_run rfl rfl]
  simp [d_common, b_common, startS, e]
  rfl
/-- ratio -/
def PRatio (m : Nat) (g : List D → M R) : Prop := (∀ n, g [.int n, .int 0] = .ex 1) ∧ ∀ n d : Int, d ≠ 0 → Sz d m → g [.int n, .int d] = .ok (.val (qd (Rat.divInt n d)))
theorem ok_ratio {G : Env} {sub : Sub} {fuel m : Nat} (hm : m < 9000) (hg : Has G 1 (PGcd m)) : PRatio m (d_ratio.fn.run G sub fuel) := by
  obtain ⟨g, h1, h2⟩ := hg
  constructor
  · intro n
    rw [d_run rfl rfl]
    simp [d_ratio, b_ratio, startS]
  · intro n d hd hs
    rw [d_run rfl rfl, ← rt_q n d hd]
    have hp : (0 : Int) < Int.gcd n d := by have := Int.gcd_pos_iff.mpr (.inr hd : n ≠ 0 ∨ d ≠ 0); omega
    have hz : Sz (Int.gcd n d) m := Sz.gcd_right hs hd
    by_cases h0 : d < 0
    · simp [d_ratio, b_ratio, startS, hd, h0, h1, h2 (-n) (-d) hs.neg, opD_divS hp hz hm, rn, rd, rt]
    · simp [d_ratio, b_ratio, startS, hd, h0, h1, h2 n d hs, opD_divS hp hz hm, rn, rd, rt]
/-- is_ratio, of a pair -/
def PIsR (m : Nat) (g : List D → M R) : Prop := ∀ n d : Int, Sz d m → g [.tup [.int n, .int d]] = .ok (.val (.bl (decide (1 ≤ d) && decide (Int.gcd n d = 1))))
theorem ok_isr {G : Env} {sub : Sub} {fuel m : Nat} (hg : Has G 1 (PGcd m)) : PIsR m (d_is_ratio.fn.run G sub fuel) := by
  obtain ⟨g, h1, h2⟩ := hg
  intro n d hs
  rw [d_run rfl rfl]
  by_cases h0 : 1 ≤ d
  · simp [d_is_ratio, b_is_ratio, startS, h0, h1, h2 n d hs]; congr 4; simp; omega
  · simp [d_is_ratio, b_is_ratio, startS, h0]
def POfI (g : List D → M R) : Prop := ∀ n : Int, g [.int n] = .ok (.val (.tup [.int n, .int 1]))
theorem ok_of_int {G : Env} {sub : Sub} {fuel : Nat} : POfI (d_of_int.fn.run G sub fuel) := by
  intro n
  rw [d_run rfl rfl]
  simp [d_of_int, b_of_int, startS]
/-- the numbers of a law -/
def Nums (zs : List Int) : Prop := 0 < zs.length ∧ zs.length ≤ 4000 ∧ ∀ z ∈ zs, 0 ≤ z ∧ z < 1009
def PStream (g : List D → M R) : Prop := ∀ ns : List Int, ns.length ≤ 63 → ∃ zs, Nums zs ∧ g [.scr (ns.map .int)] = .ok (.own (zs.map .int))
theorem cut63 (ns : List Int) (h : ns.length ≤ 63) : cut (ns.map D.int) none (some 63) = ns.map .int := by
  unfold cut
  rw [show sIx (ns.map D.int).length 0 none = 0 from rfl, List.drop_zero, Nat.sub_zero]
  refine List.take_of_length_le ?_
  simp [sIx]
  omega
theorem ok_stream {G : Env} {sub : Sub} {fuel : Nat} : PStream (d__law_stream.fn.run G sub fuel) := by
  intro ns hl
  have main : ∃ zs : List Int, zs.length ≤ 3800 ∧ (∀ z ∈ zs, 0 ≤ z ∧ z < 1009) ∧ ∃ s2 s3 s4 s5, loopF G sub fuel (.nm 2) [.asg (.nm 3) (.blt .int [.var 2]), .iff (.cmp .GtE (.var 3) (.op .Pow (.k (.int 10)) (.k (.int 18)))) [.forr (.nm 4) (.rng [.k (.int 60)]) [.app 1 (.op .Mod (.blt .int [.var 3]) (.k (.int 1009))), .asg (.nm 3) (.op .FloorDiv (.var 3) (.k (.int 1009))), .iff (.cmp .Eq (.var 3) (.k (.int 0))) [.brk] []]] [.asg (.nm 5) (.op .Mod (.blt .int [.var 3]) (.k (.int 2147483647))), .forr (.nm 4) (.rng [.k (.int 10)]) [.asg (.nm 5) (.op .Mod (.blt .int [.op .Add (.op .Add (.op .Mult (.var 5) (.k (.int 48271))) (.op .Mult (.k (.int 7)) (.var 4))) (.k (.int 11))]) (.k (.int 2147483647))), .app 1 (.op .Mod (.op .Mod (.blt .int [.op .Add (.op .Mult (.var 5) (.k (.int 69621))) (.var 4)]) (.k (.int 2147483629))) (.k (.int 1009)))]]] [] (ns.map .int) [.val (.scr (ns.map .int)), .own [], .emp, .emp, .emp, .emp] = .nx [.val (.scr (ns.map .int)), .own (zs.map .int), s2, s3, s4, s5] := by
    obtain ⟨s', h1, zs, h2, h3, s2, s3, s4, s5, rfl⟩ := forL_inv (g := asg (.nm 2)) (b := evTs G sub fuel [.asg (.nm 3) (.blt .int [.var 2]), .iff (.cmp .GtE (.var 3) (.op .Pow (.k (.int 10)) (.k (.int 18)))) [.forr (.nm 4) (.rng [.k (.int 60)]) [.app 1 (.op .Mod (.blt .int [.var 3]) (.k (.int 1009))), .asg (.nm 3) (.op .FloorDiv (.var 3) (.k (.int 1009))), .iff (.cmp .Eq (.var 3) (.k (.int 0))) [.brk] []]] [.asg (.nm 5) (.op .Mod (.blt .int [.var 3]) (.k (.int 2147483647))), .forr (.nm 4) (.rng [.k (.int 10)]) [.asg (.nm 5) (.op .Mod (.blt .int [.op .Add (.op .Add (.op .Mult (.var 5) (.k (.int 48271))) (.op .Mult (.k (.int 7)) (.var 4))) (.k (.int 11))]) (.k (.int 2147483647))), .app 1 (.op .Mod (.op .Mod (.blt .int [.op .Add (.op .Mult (.var 5) (.k (.int 69621))) (.var 4)]) (.k (.int 2147483629))) (.k (.int 1009)))]]])
      (fun i s => ∃ zs : List Int, zs.length ≤ 60 * i ∧ (∀ z ∈ zs, 0 ≤ z ∧ z < 1009) ∧ ∃ s2 s3 s4 s5, s = [.val (.scr (ns.map .int)), .own (zs.map .int), s2, s3, s4, s5])
      (ns.map .int) [.val (.scr (ns.map .int)), .own [], .emp, .emp, .emp, .emp] ⟨[], by simp, by simp, _, _, _, _, rfl⟩
      (by
        rintro i d s hd ⟨zs, z1, z2, s2, s3, s4, s5, rfl⟩
        rw [List.getElem?_map] at hd
        obtain ⟨x, hx, rfl⟩ := Option.map_eq_some_iff.mp hd
        have hi : i < 63 := by have := (List.getElem?_eq_some_iff.mp hx).1; omega
        refine ⟨_, by simp; rfl, ?_⟩
        by_cases hb : (1000000000000000000 : Int) ≤ x
        · obtain ⟨s', h1, zs', h2, h3, s2', s3', s4', s5', rfl⟩ := forL_invb (g := asg (.nm 4)) (b := evTs G sub fuel [.app 1 (.op .Mod (.blt .int [.var 3]) (.k (.int 1009))), .asg (.nm 3) (.op .FloorDiv (.var 3) (.k (.int 1009))), .iff (.cmp .Eq (.var 3) (.k (.int 0))) [.brk] []])
            (fun j s => ∃ zs' : List Int, zs'.length ≤ zs.length + j ∧ (∀ z ∈ zs', 0 ≤ z ∧ z < 1009) ∧ ∃ y s4 , s = [.val (.scr (ns.map .int)), .own (zs'.map .int), .val (.int x), .val (.int y), s4, s5])
            (fun s => ∃ zs' : List Int, zs'.length ≤ zs.length + 60 ∧ (∀ z ∈ zs', 0 ≤ z ∧ z < 1009) ∧ ∃ s2 s3 s4 s5, s = [.val (.scr (ns.map .int)), .own (zs'.map .int), s2, s3, s4, s5])
            (rngL 0 60) [.val (.scr (ns.map .int)), .own (zs.map .int), .val (.int x), .val (.int x), s4, s5]
            ⟨zs, by omega, z2, _, _, rfl⟩
            (by rintro s ⟨zs', h1, h2, y, s4, rfl⟩; exact ⟨zs', by simpa [rngL_len] using h1, h2, _, _, _, _, rfl⟩)
            (by
              rintro j d s hd ⟨zs', h1, h2, y, s4, rfl⟩
              obtain ⟨rfl, hj⟩ := rngL_get hd
              refine ⟨_, by simp; rfl, ?_⟩
              have hlen : zs'.length < 16777216 := by omega
              have hmem : ∀ z ∈ zs' ++ [y % 1009], 0 ≤ z ∧ z < 1009 := by
                intro z hz
                rcases List.mem_append.mp hz with hz | hz
                · exact h2 z hz
                · rw [List.mem_singleton] at hz; subst hz; omega
              have dv : opD .FloorDiv (.int y) (.int 1009) = .ok (.val (.int (y / 1009))) := opD_div (by omega) (by decide +kernel)
              by_cases hy : y / 1009 = 0
              · refine ⟨_, .inr ⟨?_, zs' ++ [y % 1009], by simp; omega, hmem, .val (.int x), .val (.int 0), .val (.int ((0 : Int) + (j : Int))), s5, rfl⟩⟩
                simp [opD_mod, hlen, dv, hy]
              · refine ⟨_, .inl ⟨?_, zs' ++ [y % 1009], by simp; omega, hmem, y / 1009, .val (.int ((0 : Int) + (j : Int))), rfl⟩⟩
                simp [opD_mod, hlen, dv, hy])
          refine ⟨_, ?_, zs', by omega, h3, s2', s3', s4', s5', rfl⟩
          simp [opD, small, hb, loopF, h1]
        · obtain ⟨s', h1, zs', h2, h3, y, s4', rfl, hy⟩ := forL_inv (g := asg (.nm 4)) (b := evTs G sub fuel [.asg (.nm 5) (.op .Mod (.blt .int [.op .Add (.op .Add (.op .Mult (.var 5) (.k (.int 48271))) (.op .Mult (.k (.int 7)) (.var 4))) (.k (.int 11))]) (.k (.int 2147483647))), .app 1 (.op .Mod (.op .Mod (.blt .int [.op .Add (.op .Mult (.var 5) (.k (.int 69621))) (.var 4)]) (.k (.int 2147483629))) (.k (.int 1009)))])
            (fun j s => ∃ zs' : List Int, zs'.length ≤ zs.length + j ∧ (∀ z ∈ zs', 0 ≤ z ∧ z < 1009) ∧ ∃ y s4 , s = [.val (.scr (ns.map .int)), .own (zs'.map .int), .val (.int x), .val (.int x), s4, .val (.int y)] ∧ 0 ≤ y ∧ y < 2147483647)
            (rngL 0 10) [.val (.scr (ns.map .int)), .own (zs.map .int), .val (.int x), .val (.int x), s4, .val (.int (x % 2147483647))]
            ⟨zs, by omega, z2, _, _, rfl, by omega, by omega⟩
            (by
              rintro j d s hd ⟨zs', h1, h2, y, s4, rfl, hy1, hy2⟩
              obtain ⟨rfl, hj⟩ := rngL_get hd
              refine ⟨_, by simp; rfl, ?_⟩
              have hlen : zs'.length < 16777216 := by omega
              have m1 : opD .Mult (.int y) (.int 48271) = .ok (.val (.int (y * 48271))) := opD_mulS (k := 32) (m := 32) (Sz.of_lt hy1 (n := 2147483647) (by omega) (by omega)) (by unfold Sz; decide) (by omega)
              have m2 : opD .Mult (.int 7) (.int ((0 : Int) + (j : Int))) = .ok (.val (.int (7 * ((0 : Int) + (j : Int))))) := opD_mulS (k := 32) (m := 32) (by unfold Sz; decide) (Sz.of_lt (by omega) (n := 2147483647) (by omega) (by omega)) (by omega)
              have m3 : ∀ z : Int, opD .Mult (.int (z % 2147483647)) (.int 69621) = .ok (.val (.int (z % 2147483647 * 69621))) := fun z => opD_mulS (k := 32) (m := 32) (Sz.of_lt (by omega) (n := 2147483647) (by omega) (by omega)) (by unfold Sz; decide) (by omega)
              simp only [Int.zero_add] at m2
              refine ⟨_, ?_, zs' ++ [((y * 48271 + 7 * ↑j + 11) % 2147483647 * 69621 + ↑j) % 2147483629 % 1009], by simp; omega, ?_, (y * 48271 + 7 * ↑j + 11) % 2147483647, .val (.int ((0 : Int) + (j : Int))), rfl, by omega, by omega⟩
              · simp [opD_mod, hlen, m1, m2, m3]
              intro z hz
              rcases List.mem_append.mp hz with hz | hz
              · exact h2 z hz
              · rw [List.mem_singleton] at hz; subst hz; omega)
          have h2' : zs'.length ≤ zs.length + 10 := by simpa [rngL_len] using h2
          refine ⟨_, ?_, zs', by omega, h3, .val (.int x), .val (.int x), s4', .val (.int y), rfl⟩
          simp [opD, small, hb, loopF, opD_mod, h1])
    refine ⟨zs, by simp at h2; omega, h3, _, _, _, _, h1⟩
  obtain ⟨zs, h1, h2, s2, s3, s4, s5, h3⟩ := main
  rw [d_run rfl rfl]
  by_cases h0 : zs.length = 0
  · have : zs = [] := List.eq_nil_of_length_eq_zero h0
    subst this
    refine ⟨[0], ⟨by simp, by simp, by simp⟩, ?_⟩
    simp [d__law_stream, b__law_stream, startS, h3, cut63 ns hl]
  · refine ⟨zs, ⟨by omega, by omega, h2⟩, ?_⟩
    simp [d__law_stream, b__law_stream, startS, h3, cut63 ns hl, h0]
/-- a number of a law -/
def pk (zs : List Int) (at_ : Int) : Int := (zs[(at_ % (zs.length : Int)).toNat]?).getD 0
def PPick (g : List D → M R) : Prop := ∀ (zs : List Int) (i many : Int), Nums zs → 0 < many → g [.lst (zs.map .int), .int i, .int many] = .ok (.val (.int (pk zs i % many)))
theorem ok_pick {G : Env} {sub : Sub} {fuel : Nat} : PPick (d__law_pick.fn.run G sub fuel) := by
  intro zs i many ⟨h0, h1, h2⟩ hm
  rw [d_run rfl rfl]
  have hl : (0 : Int) < (zs.length : Int) := by omega
  have e0 := Int.emod_nonneg i (Int.ne_of_gt hl)
  have e1 := Int.emod_lt_of_pos i hl
  have e2 : (i % (zs.length : Int)).toNat < zs.length := by omega
  have e : atI (zs.map D.int) (i % (zs.length : Int)) = some (.int (pk zs i)) := by
    rw [atI_map _ _ _ e0 e1, List.getElem?_eq_getElem e2]
    simp [pk, List.getElem?_eq_getElem e2]
  simp [d__law_pick, b__law_pick, startS, opD_mod hl, e, opD_mod hm]
def PInt (g : List D → M R) : Prop := ∀ (zs : List Int) (i : Int), Nums zs → ∃ v, Sz v 140 ∧ g [.lst (zs.map .int), .int i] = .ok (.val (.int v))
theorem ok_int {G : Env} {sub : Sub} {fuel : Nat} (hg : Has G 2 PPick) : PInt (d__law_int.fn.run G sub fuel) := by
  obtain ⟨g, h1, h2⟩ := hg
  intro zs i hz
  have hp : ∀ (i many : Int), 0 < many → g [.lst (zs.map .int), .int i, .int many] = .ok (.val (.int (pk zs i % many))) := fun i many hm => h2 zs i many hz hm
  rw [d_run rfl rfl]
  -- the sign
  have hs : ∃ sg : Int, Sz sg 1 ∧ (M.ofO (atI [D.int 1, .int (-1)] (pk zs (i + 1) % 2)) = .ok (.int sg)) := by
    have : pk zs (i + 1) % 2 = 0 ∨ pk zs (i + 1) % 2 = 1 := by omega
    rcases this with h | h <;> rw [h]
    · exact ⟨1, by unfold Sz; decide, by simp⟩
    · exact ⟨-1, by unfold Sz; decide, by simp⟩
  obtain ⟨sg, s1, s2⟩ := hs
  by_cases w0 : pk zs i % 6 = 0
  · have : ∃ v : Int, Sz v 2 ∧ (M.ofO (atI [D.int 0, .int 1, .int (-1), .int 2] (pk zs (i + 2) % 4)) = .ok (.int v)) := by
      have : pk zs (i + 2) % 4 = 0 ∨ pk zs (i + 2) % 4 = 1 ∨ pk zs (i + 2) % 4 = 2 ∨ pk zs (i + 2) % 4 = 3 := by omega
      rcases this with h | h | h | h <;> rw [h]
      · exact ⟨0, by unfold Sz; decide, by simp⟩
      · exact ⟨1, by unfold Sz; decide, by simp⟩
      · exact ⟨-1, by unfold Sz; decide, rfl⟩
      · exact ⟨2, by unfold Sz; decide, rfl⟩
    obtain ⟨v, v1, v2⟩ := this
    refine ⟨v, v1.mono (by omega), ?_⟩
    simp [d__law_int, b__law_int, startS, h1, hp, s2, w0, v2]
  by_cases w4 : pk zs i % 6 < 4
  · have : ∃ v : Int, (0 < v ∧ v < 2000) ∧ (M.ofO (atI [D.int 12, .int 60, .int 1009] (pk zs i % 6 - 1)) = .ok (.int v)) := by
      have : pk zs i % 6 = 1 ∨ pk zs i % 6 = 2 ∨ pk zs i % 6 = 3 := by omega
      rcases this with h | h | h <;> rw [h]
      · exact ⟨12, by omega, rfl⟩
      · exact ⟨60, by omega, rfl⟩
      · exact ⟨1009, by omega, rfl⟩
    obtain ⟨v, v1, v2⟩ := this
    have hv : Sz (pk zs (i + 2) % v) 11 := Sz.of_lt (n := 2000) (Int.emod_nonneg _ (by omega)) (by have := Int.emod_lt_of_pos (pk zs (i + 2)) v1.1; omega) (by omega)
    refine ⟨sg * (pk zs (i + 2) % v), (Sz.mul s1 hv).mono (by omega), ?_⟩
    simp [d__law_int, b__law_int, startS, h1, hp, s2, w0, w4, v2, v1.1, opD_mulS s1 hv]
  · have hk : 0 ≤ pk zs (i + 2) % 12 ∧ pk zs (i + 2) % 12 < 12 := by omega
    obtain ⟨s', l1, v, y, v1, v2, rfl⟩ := forL_inv (g := asg (.nm 5)) (b := evTs G sub fuel [.asg (.nm 4) (.op .Add (.op .Mult (.var 4) (.k (.int 1009))) (.call 2 [.var 0, .op .Add (.op .Add (.var 1) (.k (.int 3))) (.var 5), .k (.int 1009)]))])
      (fun j s => ∃ v y, 0 ≤ v ∧ v < 2 ^ (10 * j) ∧ s = [.val (.lst (zs.map .int)), .val (.int i), .val (.int (pk zs i % 6)), .val (.int sg), .val (.int v), y])
      (rngL 0 (1 + pk zs (i + 2) % 12)) [.val (.lst (zs.map .int)), .val (.int i), .val (.int (pk zs i % 6)), .val (.int sg), .val (.int 0), .emp]
      ⟨0, _, by omega, by omega, rfl⟩
      (by
        rintro j d s hd ⟨v, y, v1, v2, rfl⟩
        obtain ⟨rfl, hj⟩ := rngL_get hd
        have hj2 : j ≤ 12 := by omega
        refine ⟨_, by simp; rfl, _, ?_, v * 1009 + pk zs (i + 3 + ((0 : Int) + (j : Int))) % 1009, .val (.int ((0 : Int) + (j : Int))), by omega, ?_, rfl⟩
        · have m1 : opD .Mult (.int v) (.int 1009) = .ok (.val (.int (v * 1009))) := opD_mulS (k := 10 * j) (m := 10) (by unfold Sz; have : ((2 : Int) ^ (10 * j)) = ((2 ^ (10 * j) : Nat) : Int) := by simp
                                                                                                                          omega) (by unfold Sz; decide) (by omega)
          simp [h1, hp, m1]
        · have : (2 : Int) ^ (10 * (j + 1)) = 2 ^ (10 * j) * 1024 := by rw [Nat.mul_add, Int.pow_add]; rfl
          omega)
    have hl : (rngL 0 (1 + pk zs (i + 2) % 12)).length ≤ 12 := by rw [rngL_len]; omega
    have hv : Sz v 120 := by
      unfold Sz
      have h3 : (2 : Nat) ^ (10 * (rngL 0 (1 + pk zs (i + 2) % 12)).length) ≤ 2 ^ 120 := Nat.pow_le_pow_right (by omega) (by omega)
      have h4 : ((2 : Int) ^ (10 * (rngL 0 (1 + pk zs (i + 2) % 12)).length)) = ((2 ^ (10 * (rngL 0 (1 + pk zs (i + 2) % 12)).length) : Nat) : Int) := by simp
      omega
    refine ⟨sg * v, (Sz.mul s1 hv).mono (by omega), ?_⟩
    have hsm : small (1 + pk zs (i + 2) % 12) = true := by unfold small; simp; omega
    simp [d__law_int, b__law_int, startS, h1, hp, s2, w0, w4, hsm, loopF, l1, opD_mulS s1 hv]
theorem ok_lgcd {G : Env} {sub : Sub} {fuel : Nat} : PGcd 19000 (d__law_gcd.fn.run G sub fuel) := by
  intro a b hb
  obtain ⟨z', e⟩ := euclid_for (g := asg (.nm 2)) (b := evTs G sub fuel [.iff (.cmp .Eq (.var 1) (.k (.int 0))) [.brk] [], .frz 1, .par [0, 1] [.var 1, .op .Mod (.blt .int [.var 0]) (.var 1)]])
    (by intro k x y z; simp)
    (by intro x k; simp)
    (by intro x y k hx hy
        have : ¬ y = 0 := by omega
        simp [opD_mod hy, this])
    19000 (List.range 40000) a.natAbs b.natAbs .emp hb (by rw [List.length_range]; omega)
  rw [d_run rfl rfl]
  have r : rngL 0 40000 = (List.range 40000).map fun k : Nat => D.int k := by
    unfold rngL
    rw [show ((40000 : Int) - 0).toNat = 40000 from rfl]
    exact List.map_congr_left fun x _ => by rw [Int.zero_add]
  rw [← r] at e
  simp [d__law_gcd, b__law_gcd, startS, small, loopF, e]
  rfl

@[simp] theorem ix_qd0 (a : Rat) : ixD (qd a) (.int 0) = .ok (.val (.int a.num)) := rfl
@[simp] theorem ix_qd1 (a : Rat) : ixD (qd a) (.int 1) = .ok (.val (.int a.den)) := rfl
@[simp] theorem len_qd (a : Rat) : bltD .len [qd a] = .ok (.val (.int 2)) := rfl
@[simp] theorem isTy_qd (a : Rat) (t : Ty) : isTy t (qd a) = (t == .tuple) := isTy_tup _ t
@[simp] theorem den_gt (a : Rat) : decide ((1 : Int) ≤ a.den) = true := by have := den_pos a; simp only [decide_eq_true_eq]; omega
@[simp] theorem den_0 (a : Rat) : ((a.den : Int) = 0) = False := by have := den_pos a; simp only [eq_iff_iff, iff_false]; omega
/-- over the signs of numbers -/
def sg (n : Int) : Int := if n = 0 then 0 else if 0 < n then 1 else -1
def cmpQ (a b : Rat) : Int := if a = b then 0 else if b < a then 1 else -1
def PPlus (g : List D → M R) : Prop := ∀ a b, QS a 4000 → QS b 4000 → g [qd a, qd b] = .ok (.val (qd (a + b)))
def PMinus (g : List D → M R) : Prop := ∀ a b, QS a 4000 → QS b 4000 → g [qd a, qd b] = .ok (.val (qd (a - b)))
def PTimes (g : List D → M R) : Prop := ∀ a b, QS a 4000 → QS b 4000 → g [qd a, qd b] = .ok (.val (qd (a * b)))
def POver (g : List D → M R) : Prop := (∀ a, QS a 4000 → g [qd a, qd 0] = .ex 1) ∧ ∀ a b, b ≠ 0 → QS a 4000 → QS b 4000 → g [qd a, qd b] = .ok (.val (qd (a / b)))
def PNeg (g : List D → M R) : Prop := ∀ a, g [qd a] = .ok (.val (qd (-a)))
def PSign (g : List D → M R) : Prop := ∀ n d : Int, g [.tup [.int n, .int d]] = .ok (.val (.int (sg n)))
def PCmp (g : List D → M R) : Prop := ∀ a b, QS a 4000 → QS b 4000 → g [qd a, qd b] = .ok (.val (.int (cmpQ a b)))
def PFloor (g : List D → M R) : Prop := ∀ a, QS a 8000 → g [qd a] = .ok (.val (.int a.floor))
def PLRatio (g : List D → M R) : Prop := ∀ n d : Int, d ≠ 0 → Sz d 8000 → g [.int n, .int d] = .ok (.val (qd (Rat.divInt n d)))
section
variable {G : Env} {sub : Sub} {fuel : Nat}
theorem ok_plus (hg : Has G 4 (PRatio 8000)) : PPlus (d_plus.fn.run G sub fuel) := by
  obtain ⟨g, h1, _, h2⟩ := hg
  intro a b ha hb
  rw [d_run rfl rfl]
  have e := h2 (a.num * b.den + b.num * a.den) (a.den * b.den) (Int.mul_ne_zero (den_ne a) (den_ne b)) ((Sz.mul ha.2 hb.2).mono (by omega))
  rw [q_add] at e
  simp [d_plus, b_plus, startS, opD_mulS ha.1 hb.2, opD_mulS hb.1 ha.2, opD_mulS ha.2 hb.2, h1, e]
theorem ok_times (hg : Has G 4 (PRatio 8000)) : PTimes (d_times.fn.run G sub fuel) := by
  obtain ⟨g, h1, _, h2⟩ := hg
  intro a b ha hb
  rw [d_run rfl rfl]
  have e := h2 (a.num * b.num) (a.den * b.den) (Int.mul_ne_zero (den_ne a) (den_ne b)) ((Sz.mul ha.2 hb.2).mono (by omega))
  rw [q_mul] at e
  simp [d_times, b_times, startS, opD_mulS ha.1 hb.1, opD_mulS ha.2 hb.2, h1, e]
theorem ok_over (hg : Has G 4 (PRatio 8000)) : POver (d_over.fn.run G sub fuel) := by
  obtain ⟨g, h1, h0, h2⟩ := hg
  constructor
  · intro a ha
    rw [d_run rfl rfl]
    have m := opD_mulS ha.2 QS.zero.1 (by omega)
    have m2 := opD_mulS ha.1 QS.zero.2 (by omega)
    simp at m m2
    simp [d_over, b_over, startS, h1, h0, m, m2]
  · intro a b hb0 ha hb
    rw [d_run rfl rfl]
    have e := h2 (a.num * b.den) (a.den * b.num) (Int.mul_ne_zero (den_ne a) (by rw [Ne, Rat.num_eq_zero]; exact hb0)) ((Sz.mul ha.2 hb.1).mono (by omega))
    rw [q_div] at e
    simp [d_over, b_over, startS, opD_mulS ha.1 hb.2, opD_mulS ha.2 hb.1, h1, e]
theorem ok_negated : PNeg (d_negated.fn.run G sub fuel) := by
  intro a
  rw [d_run rfl rfl]
  simp [d_negated, b_negated, startS, qd, Rat.neg_num, Rat.neg_den]
theorem ok_minus (hp : Has G 11 PPlus) (hn : Has G 12 PNeg) : PMinus (d_minus.fn.run G sub fuel) := by
  obtain ⟨g, h1, h2⟩ := hp
  obtain ⟨g', h1', h2'⟩ := hn
  intro a b ha hb
  rw [d_run rfl rfl]
  simp [d_minus, b_minus, startS, h1, h1', h2' b, h2 a (-b) ha hb.neg, Rat.sub_eq_add_neg]
theorem ok_sign : PSign (d_sign_of.fn.run G sub fuel) := by
  intro n d
  rw [d_run rfl rfl]
  by_cases h0 : n = 0
  · simp [d_sign_of, b_sign_of, startS, h0, sg]
  · by_cases h1 : 0 < n <;> simp [d_sign_of, b_sign_of, startS, h0, h1, sg]
theorem ok_compare (hs : Has G 13 PSign) : PCmp (d_compare.fn.run G sub fuel) := by
  obtain ⟨g, h1, h2⟩ := hs
  intro a b ha hb
  rw [d_run rfl rfl]
  have e : cmpQ a b = sg (a.num * b.den - b.num * a.den) := by
    obtain ⟨q1, q2⟩ := q_sub_num a b
    unfold sg cmpQ
    by_cases h : a = b
    · rw [if_pos h, if_pos (q2.mpr h)]
    · rw [if_neg h, if_neg (fun h' => h (q2.mp h'))]
      by_cases h' : b < a
      · rw [if_pos h', if_pos]
        have : ¬ a < b := by grind
        rw [← q1] at this; rw [← q2] at h; omega
      · rw [if_neg h', if_neg]
        have : a < b := by grind
        rw [← q1] at this; omega
  rw [e]
  simp [d_compare, b_compare, startS, opD_mulS ha.1 hb.2, opD_mulS hb.1 ha.2, h1, h2 _ 1]
theorem ok_floor : PFloor (d_floor_of.fn.run G sub fuel) := by
  intro a ha
  rw [d_run rfl rfl]
  simp [d_floor_of, b_floor_of, startS, opD_divS (den_pos a) ha.2, Rat.floor_def]
theorem ok_lratio (hg : Has G 3 (PGcd 19000)) : PLRatio (d__law_ratio.fn.run G sub fuel) := by
  obtain ⟨g, h1, h2⟩ := hg
  intro n d hd hs
  rw [d_run rfl rfl, ← rt_q n d hd]
  have hp : (0 : Int) < Int.gcd n d := by have := Int.gcd_pos_iff.mpr (.inr hd : n ≠ 0 ∨ d ≠ 0); omega
  have hz : Sz (Int.gcd n d) 8000 := Sz.gcd_right hs hd
  by_cases h0 : d < 0
  · simp [d__law_ratio, b__law_ratio, startS, hd, h0, h1, h2 (-n) (-d) (hs.neg.mono (by omega)), opD_divS hp hz, rn, rd, rt]
  · simp [d__law_ratio, b__law_ratio, startS, hd, h0, h1, h2 n d (hs.mono (by omega)), opD_divS hp hz, rn, rd, rt]
theorem ok_lplus (hg : Has G 14 PLRatio) : PPlus (d__law_plus.fn.run G sub fuel) := by
  obtain ⟨g, h1, h2⟩ := hg
  intro a b ha hb
  rw [d_run rfl rfl]
  have e := h2 (a.num * b.den + b.num * a.den) (a.den * b.den) (Int.mul_ne_zero (den_ne a) (den_ne b)) ((Sz.mul ha.2 hb.2).mono (by omega))
  rw [q_add] at e
  simp [d__law_plus, b__law_plus, startS, opD_mulS ha.1 hb.2, opD_mulS hb.1 ha.2, opD_mulS ha.2 hb.2, h1, e]
theorem ok_ltimes (hg : Has G 14 PLRatio) : PTimes (d__law_times.fn.run G sub fuel) := by
  obtain ⟨g, h1, h2⟩ := hg
  intro a b ha hb
  rw [d_run rfl rfl]
  have e := h2 (a.num * b.num) (a.den * b.den) (Int.mul_ne_zero (den_ne a) (den_ne b)) ((Sz.mul ha.2 hb.2).mono (by omega))
  rw [q_mul] at e
  simp [d__law_times, b__law_times, startS, opD_mulS ha.1 hb.1, opD_mulS ha.2 hb.2, h1, e]
end
end EV

set_option linter.all false
set_option autoImplicit false
namespace EV
theorem le_divInt (x n d : Int) (hd : 0 < d) : x * (Rat.divInt n d).den ≤ (Rat.divInt n d).num ↔ x * d ≤ n := by
  obtain ⟨h1, h2⟩ := q_num n d (by omega)
  rw [h1, h2]
  have h3 := rn_mul n d (by omega)
  have h4 : 0 < rd n d := by have := rd_pos n d (by omega); omega
  generalize rd n d = r at *
  generalize rn n d = s at *
  constructor <;> intro h
  · refine Int.le_of_mul_le_mul_right (a := r) ?_ h4
    have := Int.mul_le_mul_of_nonneg_right h (Int.le_of_lt hd)
    grind
  · refine Int.le_of_mul_le_mul_right (a := d) ?_ hd
    have := Int.mul_le_mul_of_nonneg_right h (Int.le_of_lt h4)
    grind
theorem floor_divInt (n d : Int) (hd : 0 < d) : (Rat.divInt n d).floor = n / d := by
  have h : ∀ x : Int, x ≤ (Rat.divInt n d).floor ↔ x ≤ n / d := by
    intro x
    rw [Rat.floor_def, Int.le_ediv_iff_mul_le hd, Int.le_ediv_iff_mul_le (den_pos _)]
    exact le_divInt x n d hd
  have h1 := (h _).mp (Int.le_refl _)
  have h2 := (h _).mpr (Int.le_refl _)
  omega
theorem q_intmul (p : Int) (w : Rat) : Rat.divInt (p * w.num) w.den = (p : Rat) * w := by
  have := q_mul p w
  rw [Rat.num_intCast, Rat.den_intCast] at this
  rw [← this]; simp
theorem rngL0_get {hi : Int} {i : Nat} {d : D} (h : (rngL 0 hi)[i]? = some d) : d = .int i ∧ (i : Int) < hi := by
  have := rngL_get h
  rwa [Int.zero_add] at this
theorem qd_abs (w : Rat) : ∃ v : Rat, D.tup [.int (w.num.natAbs : Int), .int w.den] = qd v ∧ (∀ k, QS w k → QS v k) := by
  have h : (Rat.divInt (w.num.natAbs : Int) w.den).num = w.num.natAbs ∧ ((Rat.divInt (w.num.natAbs : Int) w.den).den : Int) = w.den := by
    refine q_of (by have := den_pos w; omega) ?_
    have := w.reduced
    simpa [Int.gcd] using this
  refine ⟨Rat.divInt (w.num.natAbs : Int) w.den, ?_, ?_⟩
  · unfold qd; rw [h.1, h.2]
  · intro k hk; unfold QS; rw [h.1, h.2]; exact ⟨hk.1.abs, hk.2⟩
theorem sg_neg (n : Int) : (sg n < 0) ↔ n < 0 := by unfold sg; (repeat' split) <;> omega
theorem sg_pos (n : Int) : (0 < sg n) ↔ 0 < n := by unfold sg; (repeat' split) <;> omega
theorem sg_0 (n : Int) : (sg n = 0) ↔ n = 0 := by unfold sg; (repeat' split) <;> omega
def PTrue (g : List D → M R) : Prop := ∀ ns : List Int, ns.length ≤ 63 → g [.scr (ns.map .int)] = .ok (.val (.bl true))
end EV

set_option linter.all false
set_option autoImplicit false
namespace EV
/-! EvL3: rows of ratios. -/
def rowD (qs : List Rat) : D := .tup (qs.map qd)
/-- all of a row are small -/
def RS (qs : List Rat) (k : Nat) : Prop := ∀ q ∈ qs, QS q k
theorem RS.mono {qs : List Rat} {k m : Nat} (h : RS qs k) (hk : k ≤ m) : RS qs m := fun q hq => (h q hq).mono hk
theorem rngL_map {n : Int} : rngL 0 n = (List.range n.toNat).map fun k : Nat => D.int k := by
  unfold rngL
  rw [Int.sub_zero]
  exact List.map_congr_left fun x _ => by rw [Int.zero_add]
@[simp] theorem rowD_wf (qs : List Rat) : wf 60 (rowD qs) = true := by
  unfold rowD
  simp only [wf, List.all_map, List.all_eq_true]
  intro q _
  exact qd_wf q 58
theorem eqDs_row (a b : List Rat) : eqDs (a.map qd) (b.map qd) = decide (a = b) := by
  induction a generalizing b with
  | nil => cases b <;> simp [eqDs]
  | cons x r ih => cases b with
    | nil => simp [eqDs]
    | cons y s => simp only [List.map_cons, eqDs, qd_eq, ih, List.cons.injEq, Bool.decide_and]
@[simp] theorem eqD_row (a b : List Rat) : eqD (rowD a) (rowD b) = decide (a = b) := by
  unfold rowD; rw [eqD]; exact eqDs_row a b
@[simp] theorem deepM_row (a b : List Rat) (t : Bool) : deepM (rowD a) (rowD b) t = .ok (.val (.bl t)) := by
  unfold deepM; rw [rowD_wf, rowD_wf]; rfl
@[simp] theorem deepM_qd (a b : Rat) (t : Bool) : deepM (qd a) (qd b) t = .ok (.val (.bl t)) := by
  unfold deepM; rw [qd_wf, qd_wf]; rfl
@[simp] theorem eqD_qd (a b : Rat) : eqD (qd a) (qd b) = decide (a = b) := qd_eq a b
@[simp] theorem len_row (a : List Rat) : bltD .len [rowD a] = .ok (.val (.int a.length)) := by unfold rowD; simp
@[simp] theorem isTy_row (a : List Rat) (t : Ty) : isTy t (rowD a) = (t == .tuple) := isTy_tup _ t
@[simp] theorem itD_row (a : List Rat) (b : Bool) : itD (rowD a) b = .ok ⟨a.map qd, [], b⟩ := rfl
@[simp] theorem zipD_row (a b : List Rat) (t : Bool) : zipD (rowD a) (rowD b) t = .ok ⟨(a.zip b).map fun p => .tup [qd p.1, qd p.2], [], t⟩ := by
  show M.ok (⟨zipL (a.map qd) (b.map qd), [], t⟩ : Its) = _
  rw [zipL_map]
theorem ix_row {a : List Rat} {i : Int} {q : Rat} (h0 : 0 ≤ i) (h : a[i.toNat]? = some q) : ixD (rowD a) (.int i) = .ok (.val (qd q)) := by
  have h1 : i.toNat < a.length := (List.getElem?_eq_some_iff.mp h).1
  unfold rowD
  rw [ix_tup, atI_map _ _ _ h0 (by omega), h]
  rfl
@[simp] theorem tuple_map (a : List Rat) : bltD .tuple [.lst (a.map qd)] = .ok (.val (rowD a)) := rfl
/-- the sum of the products -/
def dot (xs ys : List Rat) : Rat := (List.zipWith (· * ·) xs ys).sum
theorem QS_sum {l : List Rat} {m : Nat} (h : RS l m) : QS l.sum (l.length * (m + 1) + 1) := by
  induction l with
  | nil => exact QS.zero.mono (by omega)
  | cons x r ih =>
    rw [List.sum_cons]
    refine (QS.add (h x (List.mem_cons_self ..)) (ih fun y hy => h y (List.mem_cons_of_mem _ hy))).mono ?_
    rw [List.length_cons, Nat.add_mul]; omega
theorem RS_zip {xs ys : List Rat} {k m : Nat} (h : RS xs k) (h' : RS ys m) : RS (List.zipWith (· * ·) xs ys) (k + m) := by
  intro q hq
  rw [← List.map_uncurry_zip_eq_zipWith, List.mem_map] at hq
  obtain ⟨p, hp, rfl⟩ := hq
  exact QS.mul (h _ (List.of_mem_zip hp).1) (h' _ (List.of_mem_zip hp).2)
theorem QS_dot {xs ys : List Rat} {k m : Nat} (h : RS xs k) (h' : RS ys m) : QS (dot xs ys) (xs.length * (k + m + 1) + 1) := by
  refine (QS_sum (RS_zip h h')).mono ?_
  rw [List.length_zipWith]
  have := Nat.mul_le_mul_right (k + m + 1) (Nat.min_le_left xs.length ys.length)
  omega
section
variable {G : Env} {sub : Sub} {fuel : Nat}
/-- check_widths, of two rows -/
def PWidths (g : List D → M R) : Prop := ∀ xs ys : List Rat, g [rowD xs, rowD ys] = if xs.length = ys.length then .ok (.val .non) else .ex 1
theorem ok_widths : PWidths (d_check_widths.fn.run G sub fuel) := by
  intro xs ys
  rw [d_run rfl rfl]
  by_cases h : xs.length = ys.length
  · simp [d_check_widths, b_check_widths, startS, h]
  · have : ¬ (xs.length : Int) = ys.length := by omega
    simp [d_check_widths, b_check_widths, startS, h, this]
/-- the sums, place by place -/
def addR (xs ys : List Rat) : List Rat := List.zipWith (· + ·) xs ys
theorem zip_addR (xs ys : List Rat) : (xs.zip ys).map (fun p => qd (p.1 + p.2)) = (addR xs ys).map qd := by
  unfold addR; rw [← List.map_uncurry_zip_eq_zipWith, List.map_map]; rfl
def PAddRows (g : List D → M R) : Prop := ∀ xs ys : List Rat, RS xs 4000 → RS ys 4000 → xs.length < 1000 → g [rowD xs, rowD ys] = if xs.length = ys.length then .ok (.val (rowD (addR xs ys))) else .ex 1
theorem ok_add_rows (hw : Has G 30 PWidths) (hp : Has G 11 PPlus) : PAddRows (d_add_rows.fn.run G sub fuel) := by
  obtain ⟨k1, i1, j1⟩ := hw
  obtain ⟨k2, i2, j2⟩ := hp
  intro xs ys hx hy hl
  rw [d_run rfl rfl]
  have e := j1 xs ys
  by_cases h : xs.length = ys.length
  · rw [if_pos h] at e
    have lc : ∀ s3 s4, lcE G sub [2, 3] (.tup [.nm 2, .nm 3]) none (.call 11 [.var 2, .var 3]) [.val (rowD xs), .val (rowD ys), s3, s4] [] ((xs.zip ys).map fun p => .tup [qd p.1, qd p.2]) = .ok ((addR xs ys).map qd) := by
      intro s3 s4
      rw [← zip_addR]
      refine lcE_map _ fun p hp => ?_
      have := j2 p.1 p.2 (hx _ (List.of_mem_zip hp).1) (hy _ (List.of_mem_zip hp).2)
      simp [lcF, wipe, i2, this]
    have hl3 : ys.length ≤ 16777216 := by omega
    simp [d_add_rows, b_add_rows, startS, i1, e, h, lc, hl3]
    rfl
  · rw [if_neg h] at e
    simp [d_add_rows, b_add_rows, startS, i1, e, h]
def PScale (g : List D → M R) : Prop := ∀ (f : Rat) (xs : List Rat), QS f 4000 → RS xs 4000 → xs.length < 1000 → g [qd f, rowD xs] = .ok (.val (rowD (xs.map (f * ·))))
theorem ok_scale (ht : Has G 16 PTimes) : PScale (d_scale_row.fn.run G sub fuel) := by
  obtain ⟨k2, i2, j2⟩ := ht
  intro f xs hf hx hl
  rw [d_run rfl rfl]
  have lc : ∀ s3, lcE G sub [2] (.nm 2) none (.call 16 [.var 0, .var 2]) [.val (qd f), .val (rowD xs), s3] [] (xs.map qd) = .ok ((xs.map (f * ·)).map qd) := by
    intro s3
    rw [List.map_map]
    refine lcE_map _ fun q hq => ?_
    have := j2 f q hf (hx _ hq)
    simp [lcF, wipe, i2, this]
  have hl3 : xs.length ≤ 16777216 := by omega
  generalize hys : xs.map (f * ·) = ys at *
  simp [d_scale_row, b_scale_row, startS, lc, hl3]
  rfl
def PProd (g : List D → M R) : Prop := (∀ xs ys : List Rat, xs.length ≠ ys.length → g [rowD xs, rowD ys] = .ex 1) ∧ ∀ (xs ys : List Rat) (k m : Nat), xs.length = ys.length → RS xs k → RS ys m → k ≤ 4000 → m ≤ 4000 → xs.length * (k + m + 1) + 1 ≤ 3999 → xs.length < 1000 → g [rowD xs, rowD ys] = .ok (.val (qd (dot xs ys)))
theorem ok_product (hw : Has G 30 PWidths) (h10 : Has G 10 POfI) (hp : Has G 11 PPlus) (ht : Has G 16 PTimes) : PProd (d_product.fn.run G sub fuel) := by
  obtain ⟨k1, i1, j1⟩ := hw
  obtain ⟨k2, i2, j2⟩ := h10
  obtain ⟨k3, i3, j3⟩ := hp
  obtain ⟨k4, i4, j4⟩ := ht
  constructor
  · intro xs ys h
    rw [d_run rfl rfl]
    have e := j1 xs ys
    rw [if_neg h] at e
    simp [d_product, b_product, startS, i1, e]
  intro xs ys k m h hx hy hk hm hs hl
  rw [d_run rfl rfl]
  have e := j1 xs ys
  rw [if_pos h] at e
  have e0 : k2 [.int 0] = .ok (.val (qd 0)) := j2 0
  obtain ⟨s', w1, s3, s4, rfl⟩ := forL_inv (g := asg (.tup [.nm 3, .nm 4])) (b := evTs G sub fuel [.frz 2, .asg (.nm 2) (.call 11 [.var 2, .call 16 [.var 3, .var 4]])])
    (fun i s => ∃ s3 s4, s = [.val (rowD xs), .val (rowD ys), .val (qd ((List.zipWith (· * ·) xs ys).take i).sum), s3, s4])
    ((xs.zip ys).map fun p => .tup [qd p.1, qd p.2]) [.val (rowD xs), .val (rowD ys), .val (qd 0), .emp, .emp] ⟨_, _, rfl⟩
    (by
      rintro i d s hd ⟨s3, s4, rfl⟩
      rw [List.getElem?_map] at hd
      obtain ⟨p, hp, rfl⟩ := Option.map_eq_some_iff.mp hd
      have hm2 := List.of_mem_zip (List.mem_of_getElem? hp)
      refine ⟨_, by simp; rfl, ?_⟩
      have f1 := j4 p.1 p.2 ((hx _ hm2.1).mono hk) ((hy _ hm2.2).mono hm)
      have hi : i < xs.length := by
        have := (List.getElem?_eq_some_iff.mp hp).1
        rw [List.length_zip] at this; omega
      have hsz : QS ((List.zipWith (· * ·) xs ys).take i).sum (xs.length * (k + m + 1) + 1) := by
        refine (QS_sum (m := k + m) fun q hq => RS_zip hx hy q (List.mem_of_mem_take hq)).mono ?_
        rw [List.length_take]
        have := Nat.mul_le_mul_right (k + m + 1) (show min i (List.zipWith (· * ·) xs ys).length ≤ xs.length by omega)
        omega
      have f2 := j3 _ (p.1 * p.2) (hsz.mono (by omega)) ((QS.mul (hx _ hm2.1) (hy _ hm2.2)).mono (by
        have := Nat.mul_le_mul_right (k + m + 1) (show 1 ≤ xs.length by omega)
        omega))
      have hz : (List.zipWith (· * ·) xs ys)[i]? = some (p.1 * p.2) := by
        rw [← List.map_uncurry_zip_eq_zipWith, List.getElem?_map, hp]; rfl
      have hsum : ((List.zipWith (· * ·) xs ys).take (i + 1)).sum = ((List.zipWith (· * ·) xs ys).take i).sum + p.1 * p.2 := by
        rw [List.take_add_one, hz, List.sum_append]
        simp [Rat.add_zero]
      refine ⟨_, ?_, .val (qd p.1), .val (qd p.2), rfl⟩
      rw [hsum]
      generalize ((List.zipWith (· * ·) xs ys).take i).sum = t at *
      simp [i3, i4, f1, f2])
  have hd : ((List.zipWith (· * ·) xs ys).take ((xs.zip ys).map fun p => D.tup [qd p.1, qd p.2]).length).sum = dot xs ys := by
    unfold dot
    rw [List.take_of_length_le (by rw [List.length_map, List.length_zip, List.length_zipWith]; omega)]
  rw [hd] at w1
  simp [d_product, b_product, startS, i1, e, i2, e0, loopF, w1]
end
end EV

set_option linter.all false
set_option autoImplicit false
set_option maxRecDepth 100000
namespace EV
def b__law_numbers : List T := [
  .asg (.nm 2) (.lst []),
  .forr (.nm 3) (.rng [.blt .len [.var 0]]) [.asg (.nm 6) (.blt .abs [.blt .int [.ix (.var 0) (.var 3)]]), .iff (.cmp .GtE (.var 6) (.op .Pow (.k (.int 10)) (.k (.int 18)))) [.forr (.nm 7) (.rng [.k (.int 60)]) [.iff (.and (.cmp .Gt (.var 6) (.k (.int 0))) (.one (.cmp .Lt (.blt .len [.var 2]) (.var 1)))) [.app 2 (.op .Mod (.var 6) (.k (.int 10007))), .asg (.nm 6) (.op .FloorDiv (.var 6) (.k (.int 10007)))] []]] [.iff (.cmp .Lt (.blt .len [.var 2]) (.var 1)) [.asg (.nm 8) (.op .Mod (.blt .int [.op .Add (.op .Add (.op .Mult (.var 6) (.k (.int 48271))) (.op .Mult (.var 3) (.k (.int 69621)))) (.k (.int 11))]) (.k (.int 2147483647))), .app 2 (.op .FloorDiv (.op .Mod (.blt .int [.op .Add (.op .Add (.op .Mult (.var 8) (.k (.int 16807))) (.op .Mult (.k (.int 7)) (.var 3))) (.k (.int 3))]) (.k (.int 2147483647))) (.k (.int 3)))] []]],
  .asg (.nm 4) (.blt .len [.var 2]),
  .asg (.nm 5) (.op .Add (.k (.int 5381)) (.blt .len [.var 0])),
  .forr (.nm 3) (.rng [.blt .max2 [.k (.int 0), .op .Sub (.var 1) (.var 4)]]) [.iff (.cmp .Gt (.var 4) (.k (.int 0))) [.asg (.nm 5) (.op .Add (.var 5) (.ix (.var 2) (.op .Mod (.var 3) (.var 4))))] [], .asg (.nm 5) (.op .Mod (.blt .int [.op .Add (.op .Mult (.var 5) (.k (.int 48271))) (.var 3)]) (.k (.int 2147483647))), .app 2 (.op .FloorDiv (.var 5) (.k (.int 7)))],
  .ret (.sl (.var 2) none (some (.var 1)))]
def d__law_numbers : Def := ⟨50, "_law_numbers", ["_law_script", "_law_many"], ["_law_script", "_law_many", "_law_numbers_here", "_law_k", "_law_base", "_law_last", "_law_cell", "_law_j", "_law_mixed"], b__law_numbers, false, none⟩
def b__law_ratio_v3 : List T := [
  .asg (.nm 2) (.blt .abs [.var 0]),
  .asg (.nm 3) (.blt .abs [.var 1]),
  .forr (.nm 4) (.rng [.k (.int 4000)]) [.iff (.cmp .Eq (.var 3) (.k (.int 0))) [.brk] [], .asg (.nm 5) (.op .Mod (.blt .int [.var 2]) (.var 3)), .frz 3, .asg (.nm 2) (.var 3), .frz 5, .asg (.nm 3) (.var 5)],
  .iff (.cmp .Lt (.var 1) (.k (.int 0))) [.asg (.nm 2) (.op .Sub (.k (.int 0)) (.var 2))] [],
  .ret (.tup [.op .FloorDiv (.var 0) (.var 2), .op .FloorDiv (.var 1) (.var 2)])]
def d__law_ratio_v3 : Def := ⟨14, "_law_ratio", ["_law_n", "_law_d"], ["_law_n", "_law_d", "_law_one", "_law_other", "_law_turn", "_law_rest"], b__law_ratio_v3, false, none⟩
def b__law_bound : List T := [
  .ret (.call 14 [.op .Sub (.op .Mod (.var 0) (.k (.int 25))) (.var 1), .op .Add (.k (.int 1)) (.op .Mod (.op .FloorDiv (.var 0) (.k (.int 25))) (.k (.int 3)))])]
def d__law_bound : Def := ⟨49, "_law_bound", ["_law_number", "_law_low"], ["_law_number", "_law_low"], b__law_bound, false, none⟩
def b__law_part : List T := [
  .asg (.nm 1) (.op .Mod (.var 0) (.k (.int 7))),
  .iff (.cmp .Lt (.var 1) (.k (.int 2))) [.ret (.tup [.k (.int 0), .k (.int 1)])] [],
  .iff (.cmp .Lt (.var 1) (.k (.int 5))) [.ret (.tup [.op .Sub (.op .Mod (.op .FloorDiv (.var 0) (.k (.int 7))) (.k (.int 7))) (.k (.int 3)), .k (.int 1)])] [],
  .ret (.call 14 [.op .Sub (.op .Mod (.op .FloorDiv (.var 0) (.k (.int 7))) (.k (.int 11))) (.k (.int 5)), .op .Add (.k (.int 1)) (.op .Mod (.op .FloorDiv (.var 0) (.k (.int 77))) (.k (.int 4)))])]
def d__law_part : Def := ⟨48, "_law_part", ["_law_number"], ["_law_number", "_law_way"], b__law_part, false, none⟩
def b__law_row_v3 : List T := [
  .ret (.blt .tuple [.lc [3] (.nm 3) (.rng [.var 2]) none (.call 48 [.ix (.var 0) (.op .Mod (.blt .int [.op .Add (.var 1) (.op .Mult (.k (.int 3)) (.var 3))]) (.blt .len [.var 0]))])])]
def d__law_row_v3 : Def := ⟨37, "_law_row", ["_law_numbers_here", "_law_at", "_law_width"], ["_law_numbers_here", "_law_at", "_law_width", "_law_k"], b__law_row_v3, false, none⟩
def b__law_system : List T := [
  .asg (.nm 4) (.lst []),
  .forr (.nm 5) (.rng [.var 2]) [.asg (.nm 6) (.ix (.lst [.k (.str "<="), .k (.str "<="), .k (.str "=")]) (.op .Mod (.ix (.var 0) (.op .Mod (.blt .int [.op .Add (.k (.int 7)) (.op .Mult (.k (.int 5)) (.var 5))]) (.blt .len [.var 0]))) (.k (.int 3)))), .asg (.nm 7) (.call 49 [.ix (.var 0) (.op .Mod (.blt .int [.op .Add (.k (.int 11)) (.op .Mult (.k (.int 5)) (.var 5))]) (.blt .len [.var 0])), .var 3]), .frz 6, .frz 7, .app 4 (.tup [.call 37 [.var 0, .op .Add (.k (.int 13)) (.op .Mult (.k (.int 41)) (.var 5)), .var 1], .var 6, .var 7])],
  .ret (.tup [.var 1, .blt .tuple [.var 4]])]
def d__law_system : Def := ⟨51, "_law_system", ["_law_numbers_here", "_law_width", "_law_count", "_law_low"], ["_law_numbers_here", "_law_width", "_law_count", "_law_low", "_law_conditions", "_law_k", "_law_relation", "_law_bound_here"], b__law_system, false, none⟩
def b_check_system : List T := [
  .asg (.tup [.nm 1, .nm 2]) (.var 0),
  .iff (.or (.cmp .Lt (.var 1) (.k (.int 1))) (.or (.cmp .Gt (.var 1) (.gl "MAX_WIDTH" (.int 24))) (.one (.cmp .Gt (.blt .len [.var 2]) (.gl "MAX_CONDITIONS" (.int 40)))))) [.rais 1] [],
  .forr (.tup [.nm 3, .nm 4, .nm 5]) (.seq (.var 2)) [.iff (.or (.cmp .NotEq (.blt .len [.var 3]) (.var 1)) (.or (.cmp .NotIn (.var 4) (.gl "RELATIONS" (.tup [.str "<=", .str "="]))) (.one (.not (.call 8 [.var 5]))))) [.rais 1] [], .iff (.not (.blt .all [.lc [6] (.nm 6) (.seq (.var 3)) none (.call 8 [.var 6])])) [.rais 1] []]]
def d_check_system : Def := ⟨52, "check_system", ["system"], ["system", "width", "conditions", "row", "relation", "bound", "part"], b_check_system, false, none⟩
def b__law_product : List T := [
  .asg (.nm 2) (.tup [.k (.int 0), .k (.int 1)]),
  .forr (.nm 3) (.rng [.blt .len [.var 0]]) [.iff (.and (.cmp .NotEq (.ix (.ix (.var 0) (.var 3)) (.k (.int 0))) (.k (.int 0))) (.one (.cmp .NotEq (.ix (.ix (.var 1) (.var 3)) (.k (.int 0))) (.k (.int 0))))) [.frz 2, .asg (.nm 2) (.call 21 [.var 2, .call 31 [.ix (.var 0) (.var 3), .ix (.var 1) (.var 3)]])] []],
  .ret (.var 2)]
def d__law_product : Def := ⟨56, "_law_product", ["_law_first", "_law_second"], ["_law_first", "_law_second", "_law_total", "_law_k"], b__law_product, false, none⟩
def b_is_kept : List T := [
  .asg (.nm 3) (.call 17 [.var 0, .var 2]),
  .ret (.or (.cmp .Eq (.var 3) (.k (.int 0))) (.one (.and (.cmp .Lt (.var 3) (.k (.int 0))) (.one (.cmp .Eq (.var 1) (.k (.str "<=")))))))]
def d_is_kept : Def := ⟨53, "is_kept", ["total", "relation", "bound"], ["total", "relation", "bound", "order"], b_is_kept, false, none⟩
def b_keeps : List T := [
  .ret (.call 53 [.call 36 [.ix (.var 0) (.k (.int 0)), .var 1], .ix (.var 0) (.k (.int 1)), .ix (.var 0) (.k (.int 2))])]
def d_keeps : Def := ⟨55, "keeps", ["condition", "row"], ["condition", "row"], b_keeps, false, none⟩
def b__law_less : List T := [
  .ret (.cmp .Lt (.op .Mult (.ix (.var 0) (.k (.int 0))) (.ix (.var 1) (.k (.int 1)))) (.op .Mult (.ix (.var 1) (.k (.int 0))) (.ix (.var 0) (.k (.int 1)))))]
def d__law_less : Def := ⟨57, "_law_less", ["_law_first", "_law_second"], ["_law_first", "_law_second"], b__law_less, false, none⟩
def b__law_keeps : List T := [
  .asg (.nm 2) (.call 56 [.ix (.var 0) (.k (.int 0)), .var 1]),
  .frz 2,
  .ret (.or (.cmp .Eq (.var 2) (.ix (.var 0) (.k (.int 2)))) (.one (.and (.cmp .Eq (.ix (.var 0) (.k (.int 1))) (.k (.str "<="))) (.one (.call 57 [.var 2, .ix (.var 0) (.k (.int 2))])))))]
def d__law_keeps : Def := ⟨58, "_law_keeps", ["_law_condition", "_law_row_here"], ["_law_condition", "_law_row_here", "_law_total"], b__law_keeps, false, none⟩
def b_is_positive : List T := [
  .ret (.and (.cmp .Eq (.blt .len [.var 0]) (.var 1)) (.one (.blt .all [.lc [2] (.nm 2) (.seq (.var 0)) none (.cmp .GtE (.call 13 [.var 2]) (.k (.int 0)))])))]
def d_is_positive : Def := ⟨54, "is_positive", ["row", "width"], ["row", "width", "part"], b_is_positive, false, none⟩
def b_is_history : List T := [
  .iff (.not (.call 54 [.var 1, .ix (.var 0) (.k (.int 0))])) [.ret (.k (.bl false))] [],
  .ret (.blt .all [.lc [2] (.nm 2) (.seq (.ix (.var 0) (.k (.int 1)))) none (.call 55 [.var 2, .var 1])])]
def d_is_history : Def := ⟨60, "is_history", ["system", "row"], ["system", "row", "condition"], b_is_history, false, none⟩
def b__law_is_history : List T := [
  .iff (.or (.cmp .NotEq (.blt .len [.var 1]) (.ix (.var 0) (.k (.int 0)))) (.one (.not (.blt .all [.lc [3] (.nm 3) (.seq (.var 1)) none (.cmp .GtE (.ix (.var 3) (.k (.int 0))) (.k (.int 0)))])))) [.ret (.k (.bl false))] [],
  .ret (.blt .all [.lc [2] (.nm 2) (.seq (.ix (.var 0) (.k (.int 1)))) none (.call 58 [.var 2, .var 1])])]
def d__law_is_history : Def := ⟨61, "_law_is_history", ["_law_system_here", "_law_row_here"], ["_law_system_here", "_law_row_here", "_law_condition", "_law_part_here"], b__law_is_history, false, none⟩
end EV

set_option linter.all false
set_option autoImplicit false
set_option maxRecDepth 20000
namespace EV
/-! EvL4: the functions that the laws about systems share. -/
theorem euclid_gen {g : D → List S → M (List S)} {b : List S → F} (P : Int → Int → List S → Prop)
    (h0 : ∀ (x : Int) (k : Nat) s, P x 0 s → ∃ s1, g (.int k) s = .ok s1 ∧ ∃ s', b s1 = .bk s' ∧ P x 0 s')
    (hb : ∀ (x y : Int) (k : Nat) s, 0 ≤ x → 0 < y → P x y s → ∃ s1, g (.int k) s = .ok s1 ∧ ∃ s', b s1 = .nx s' ∧ P y (x % y) s') :
    ∀ (m : Nat) (ks : List Nat) (x y : Nat) (s : List S), y < 2 ^ m → 2 * m + 1 ≤ ks.length → P x y s → ∃ s', forL [] g b (ks.map fun k : Nat => D.int k) s = .nx s' ∧ P (Nat.gcd x y : Nat) 0 s' := by
  intro m
  induction m with
  | zero =>
    intro ks x y s h hn hp
    obtain ⟨k, ks, rfl⟩ := List.length_pos_iff_exists_cons.mp (by omega : 0 < ks.length)
    have : y = 0 := by simpa using h
    subst this
    obtain ⟨s1, e1, s', e2, e3⟩ := h0 x k s hp
    exact ⟨s', by simp [forL_cons0, e1, e2], by simpa using e3⟩
  | succ m ih =>
    intro ks x y s h hn hp
    obtain ⟨k, ks, rfl⟩ := List.length_pos_iff_exists_cons.mp (by omega : 0 < ks.length)
    simp only [List.length_cons] at hn
    by_cases hy : y = 0
    · subst hy
      obtain ⟨s1, e1, s', e2, e3⟩ := h0 x k s hp
      exact ⟨s', by simp [forL_cons0, e1, e2], by simpa using e3⟩
    · have hy' : (0 : Int) < (y : Int) := by omega
      have hr : x % y < y := Nat.mod_lt _ (by omega)
      have e : (x : Int) % (y : Int) = ((x % y : Nat) : Int) := by simp
      have g' : Nat.gcd x y = Nat.gcd y (x % y) := by rw [Nat.gcd_comm x y, Nat.gcd_rec y x, Nat.gcd_comm]
      obtain ⟨s1, e1, s', e2, e3⟩ := hb x y k s (Int.natCast_nonneg x) hy' hp
      rw [e] at e3
      simp only [List.map_cons, forL_cons0, M_f_ok, loop_nx, e1, e2]
      by_cases hr2 : x % y < 2 ^ m
      · rw [g']; exact ih ks y (x % y) _ hr2 (by omega) e3
      · obtain ⟨k2, ks, rfl⟩ := List.length_pos_iff_exists_cons.mp (by omega : 0 < ks.length)
        simp only [List.length_cons] at hn
        have p2 : 2 ^ (m+1) = 2 * 2 ^ m := by rw [Nat.pow_succ]; omega
        have hr0 : (0 : Int) < ((x % y : Nat) : Int) := by have := Nat.two_pow_pos m; omega
        have e2' : (y : Int) % ((x % y : Nat) : Int) = ((y % (x % y) : Nat) : Int) := by simp
        have q : y % (x % y) < 2 ^ m := by
          have h1 : y % (x % y) = (y - x % y) % (x % y) := Nat.mod_eq_sub_mod (by omega)
          have h2 := Nat.mod_le (y - x % y) (x % y)
          omega
        have g2 : Nat.gcd y (x % y) = Nat.gcd (x % y) (y % (x % y)) := by rw [Nat.gcd_comm y (x % y), Nat.gcd_rec (x % y) y, Nat.gcd_comm]
        obtain ⟨t1, f1, t', f2, f3⟩ := hb y (x % y : Nat) k2 s' (Int.natCast_nonneg y) hr0 e3
        rw [e2'] at f3
        simp only [List.map_cons, forL_cons0, M_f_ok, loop_nx, f1, f2]
        rw [g', g2]
        exact ih ks _ _ _ q (by omega) f3
theorem rngL0_map (n : Nat) : rngL 0 (n : Int) = (List.range n).map fun k : Nat => D.int k := by rw [rngL_map]; simp
section
variable {G : Env} {sub : Sub} {fuel : Nat}
/-- _law_ratio of the laws about systems, of a denominator above 0 -/
def PLRatio2 (g : List D → M R) : Prop := ∀ n d : Int, 0 < d → Sz d 1900 → g [.int n, .int d] = .ok (.val (qd (Rat.divInt n d)))
theorem ok_lratio2 : PLRatio2 (d__law_ratio_v3.fn.run G sub fuel) := by
  intro n d hd hs
  rw [d_run rfl rfl, ← rt_q n d (by omega)]
  have hp : (0 : Int) < Int.gcd n d := by have := Int.gcd_pos_iff.mpr (.inr (by omega) : n ≠ 0 ∨ d ≠ 0); omega
  have hz : Sz (Int.gcd n d) 1900 := Sz.gcd_right hs (by omega)
  have hda : (d.natAbs : Int) = d := by omega
  obtain ⟨s', w1, s4, s5, rfl⟩ := euclid_gen (g := asg (.nm 4)) (b := evTs G sub fuel [.iff (.cmp .Eq (.var 3) (.k (.int 0))) [.brk] [], .asg (.nm 5) (.op .Mod (.blt .int [.var 2]) (.var 3)), .frz 3, .asg (.nm 2) (.var 3), .frz 5, .asg (.nm 3) (.var 5)])
    (fun x y s => ∃ s4 s5, s = [.val (.int n), .val (.int d), .val (.int x), .val (.int y), s4, s5])
    (by
      rintro x k s ⟨s4, s5, rfl⟩
      refine ⟨_, by simp; rfl, _, ?_, .val (.int (k : Int)), s5, rfl⟩
      simp)
    (by
      rintro x y k s hx hy ⟨s4, s5, rfl⟩
      have : ¬ y = 0 := by omega
      refine ⟨_, by simp; rfl, _, ?_, .val (.int (k : Int)), .val (.int (x % y)), rfl⟩
      simp [opD_mod hy, this])
    1900 (List.range 4000) n.natAbs d.natAbs [.val (.int n), .val (.int d), .val (.int (n.natAbs : Int)), .val (.int (d.natAbs : Int)), .emp, .emp] hs (by rw [List.length_range]; omega) ⟨_, _, rfl⟩
  rw [← rngL0_map] at w1
  have h0 : ¬ d < 0 := by omega
  have hg : ((Nat.gcd n.natAbs d.natAbs : Nat) : Int) = (Int.gcd n d : Int) := rfl
  rw [hg] at w1
  have w2 : loopF G sub fuel (.nm 4) [.iff (.cmp .Eq (.var 3) (.k (.int 0))) [.brk] [], .asg (.nm 5) (.op .Mod (.blt .int [.var 2]) (.var 3)), .frz 3, .asg (.nm 2) (.var 3), .frz 5, .asg (.nm 3) (.var 5)] [] (rngL 0 4000) [.val (.int n), .val (.int d), .val (.int (n.natAbs : Int)), .val (.int (d.natAbs : Int)), .emp, .emp] = .nx [.val (.int n), .val (.int d), .val (.int (Int.gcd n d : Int)), .val (.int 0), s4, s5] := w1
  have hsm : small 4000 = true := by decide
  simp only [d__law_ratio_v3, b__law_ratio_v3, startS]
  simp [hsm, w2, h0, opD_divS hp hz, rt, rn, rd]
theorem ok_lplus2 (hg : Has G 14 PLRatio2) : ∀ a b, QS a 900 → QS b 900 → d__law_plus.fn.run G sub fuel [qd a, qd b] = .ok (.val (qd (a + b))) := by
  obtain ⟨g, h1, h2⟩ := hg
  intro a b ha hb
  rw [d_run rfl rfl]
  have e := h2 (a.num * b.den + b.num * a.den) (a.den * b.den) (Int.mul_pos (den_pos a) (den_pos b)) ((Sz.mul ha.2 hb.2).mono (by omega))
  rw [q_add] at e
  simp [d__law_plus, b__law_plus, startS, opD_mulS ha.1 hb.2, opD_mulS hb.1 ha.2, opD_mulS ha.2 hb.2, h1, e]
theorem ok_ltimes2 (hg : Has G 14 PLRatio2) : ∀ a b, QS a 900 → QS b 900 → d__law_times.fn.run G sub fuel [qd a, qd b] = .ok (.val (qd (a * b))) := by
  obtain ⟨g, h1, h2⟩ := hg
  intro a b ha hb
  rw [d_run rfl rfl]
  have e := h2 (a.num * b.num) (a.den * b.den) (Int.mul_pos (den_pos a) (den_pos b)) ((Sz.mul ha.2 hb.2).mono (by omega))
  rw [q_mul] at e
  simp [d__law_times, b__law_times, startS, opD_mulS ha.1 hb.1, opD_mulS ha.2 hb.2, h1, e]
def PLess (g : List D → M R) : Prop := ∀ a b, QS a 4000 → QS b 4000 → g [qd a, qd b] = .ok (.val (.bl (decide (a < b))))
theorem ok_less : PLess (d__law_less.fn.run G sub fuel) := by
  intro a b ha hb
  rw [d_run rfl rfl]
  have e : decide (a < b) = decide (a.num * b.den < b.num * a.den) := by rw [decide_eq_decide, Rat.lt_iff]
  rw [e]
  simp [d__law_less, b__law_less, startS, opD_mulS ha.1 hb.2, opD_mulS hb.1 ha.2]
end
end EV

set_option linter.all false
set_option autoImplicit false
set_option maxRecDepth 20000
namespace EV
/-- the numbers of a law about systems -/
def NumsS (zs : List Int) (n : Nat) : Prop := zs.length = n ∧ ∀ z ∈ zs, 0 ≤ z ∧ z < 2147483648
section
variable {G : Env} {sub : Sub} {fuel : Nat}
def PNumsS (g : List D → M R) : Prop := ∀ (ns : List Int) (many : Nat), ns.length ≤ 63 → 1 ≤ many → many ≤ 1000 → ∃ zs, NumsS zs many ∧ g [.scr (ns.map .int), .int many] = .ok (.own (zs.map .int))
theorem ok_numsS : PNumsS (d__law_numbers.fn.run G sub fuel) := by
  intro ns many hl hm hm2
  rw [d_run rfl rfl]
  have inr : ∀ (zs : List Int) (x : Int), (∀ z ∈ zs, 0 ≤ z ∧ z < 2147483648) → 0 ≤ x → x < 2147483648 → ∀ z ∈ zs ++ [x], 0 ≤ z ∧ z < 2147483648 := by
    intro zs x h1 h2 h3 z hz
    rcases List.mem_append.mp hz with hz | hz
    · exact h1 z hz
    · rw [List.mem_singleton] at hz; subst hz; exact ⟨h2, h3⟩
  obtain ⟨s', w1, zs, z1, z2, s3, s6, s7, s8, rfl⟩ := forL_inv (g := asg (.nm 3)) (b := evTs G sub fuel [.asg (.nm 6) (.blt .abs [.blt .int [.ix (.var 0) (.var 3)]]), .iff (.cmp .GtE (.var 6) (.op .Pow (.k (.int 10)) (.k (.int 18)))) [.forr (.nm 7) (.rng [.k (.int 60)]) [.iff (.and (.cmp .Gt (.var 6) (.k (.int 0))) (.one (.cmp .Lt (.blt .len [.var 2]) (.var 1)))) [.app 2 (.op .Mod (.var 6) (.k (.int 10007))), .asg (.nm 6) (.op .FloorDiv (.var 6) (.k (.int 10007)))] []]] [.iff (.cmp .Lt (.blt .len [.var 2]) (.var 1)) [.asg (.nm 8) (.op .Mod (.blt .int [.op .Add (.op .Add (.op .Mult (.var 6) (.k (.int 48271))) (.op .Mult (.var 3) (.k (.int 69621)))) (.k (.int 11))]) (.k (.int 2147483647))), .app 2 (.op .FloorDiv (.op .Mod (.blt .int [.op .Add (.op .Add (.op .Mult (.var 8) (.k (.int 16807))) (.op .Mult (.k (.int 7)) (.var 3))) (.k (.int 3))]) (.k (.int 2147483647))) (.k (.int 3)))] []]])
    (fun i s => ∃ zs : List Int, zs.length ≤ many ∧ (∀ z ∈ zs, 0 ≤ z ∧ z < 2147483648) ∧ ∃ s3 s6 s7 s8, s = [.val (.scr (ns.map .int)), .val (.int many), .own (zs.map .int), s3, .emp, .emp, s6, s7, s8])
    (rngL 0 (ns.length : Int)) [.val (.scr (ns.map .int)), .val (.int many), .own [], .emp, .emp, .emp, .emp, .emp, .emp] ⟨[], by simp, by simp, _, _, _, _, rfl⟩
    (by
      rintro k d s hd ⟨zs, z1, z2, s3, s6, s7, s8, rfl⟩
      obtain ⟨rfl, hk⟩ := rngL0_get hd
      refine ⟨_, by simp; rfl, ?_⟩
      have hk' : k < ns.length := by omega
      obtain ⟨x, hx⟩ : ∃ x, x = ns[k] := ⟨_, rfl⟩
      have at1 : atI (ns.map D.int) (k : Int) = some (.int x) := by
        rw [atI_map _ _ _ (by omega) (by omega), Int.toNat_natCast, List.getElem?_eq_getElem hk', ← hx]; rfl
      have hlen : zs.length < 16777216 := by omega
      by_cases hb : (1000000000000000000 : Int) ≤ x.natAbs
      · obtain ⟨s', v1, zs', y1, y2, c, s7', c0, rfl⟩ := forL_inv (g := asg (.nm 7)) (b := evTs G sub fuel [.iff (.and (.cmp .Gt (.var 6) (.k (.int 0))) (.one (.cmp .Lt (.blt .len [.var 2]) (.var 1)))) [.app 2 (.op .Mod (.var 6) (.k (.int 10007))), .asg (.nm 6) (.op .FloorDiv (.var 6) (.k (.int 10007)))] []])
          (fun j s => ∃ zs' : List Int, zs'.length ≤ many ∧ (∀ z ∈ zs', 0 ≤ z ∧ z < 2147483648) ∧ ∃ (c : Int) (s7 : S), 0 ≤ c ∧ s = [.val (.scr (ns.map .int)), .val (.int many), .own (zs'.map .int), .val (.int (k : Int)), .emp, .emp, .val (.int c), s7, s8])
          (rngL 0 60) [.val (.scr (ns.map .int)), .val (.int many), .own (zs.map .int), .val (.int (k : Int)), .emp, .emp, .val (.int (x.natAbs : Int)), s7, s8] ⟨zs, z1, z2, _, _, by omega, rfl⟩
          (by
            rintro j d s hd ⟨zs', y1, y2, c, s7, c0, rfl⟩
            obtain ⟨rfl, hj⟩ := rngL0_get hd
            refine ⟨_, by simp; rfl, ?_⟩
            have hlen' : zs'.length < 16777216 := by omega
            have dv : opD .FloorDiv (.int c) (.int 10007) = .ok (.val (.int (c / 10007))) := opD_div (by omega) (by decide +kernel)
            by_cases h1 : 0 < c
            · by_cases h2 : (zs'.length : Int) < many
              · refine ⟨_, ?_, zs' ++ [c % 10007], by simp; omega, inr zs' _ y2 (by omega) (by omega), c / 10007, .val (.int (j : Int)), by omega, rfl⟩
                have h2' : zs'.length < many := by omega
                simp [h1, h2', opD_mod, dv, hlen']
              · refine ⟨_, ?_, zs', y1, y2, c, .val (.int (j : Int)), c0, rfl⟩
                have h2' : ¬ zs'.length < many := by omega
                simp [h1, h2']
            · refine ⟨_, ?_, zs', y1, y2, c, .val (.int (j : Int)), c0, rfl⟩
              simp [h1])
        refine ⟨_, ?_, zs', y1, y2, .val (.int (k : Int)), .val (.int c), s7', s8, rfl⟩
        have hsm : small 60 = true := by decide
        simp [at1, opD, hb, hsm, loopF, v1]
      · by_cases h2 : zs.length < many
        · have m1 : opD .Mult (.int (x.natAbs : Int)) (.int 48271) = .ok (.val (.int ((x.natAbs : Int) * 48271))) := opD_mulS (k := 70) (m := 32) (Sz.of_lt (n := 1000000000000000000) (by omega) (by omega) (by omega)) (by unfold Sz; decide) (by omega)
          have m2 : opD .Mult (.int (k : Int)) (.int 69621) = .ok (.val (.int ((k : Int) * 69621))) := opD_mulS (k := 32) (m := 32) (Sz.of_lt (n := 2147483647) (by omega) (by omega) (by omega)) (by unfold Sz; decide) (by omega)
          have m3 : ∀ z : Int, opD .Mult (.int (z % 2147483647)) (.int 16807) = .ok (.val (.int (z % 2147483647 * 16807))) := fun z => opD_mulS (k := 32) (m := 32) (Sz.of_lt (n := 2147483647) (by omega) (by omega) (by omega)) (by unfold Sz; decide) (by omega)
          have m4 : opD .Mult (.int 7) (.int (k : Int)) = .ok (.val (.int (7 * (k : Int)))) := opD_mulS (k := 32) (m := 32) (by unfold Sz; decide) (Sz.of_lt (n := 2147483647) (by omega) (by omega) (by omega)) (by omega)
          have dv : ∀ c : Int, opD .FloorDiv (.int c) (.int 3) = .ok (.val (.int (c / 3))) := fun c => opD_div (by omega) (by decide +kernel)
          refine ⟨_, ?_, zs ++ [((((x.natAbs : Int) * 48271 + (k : Int) * 69621 + 11) % 2147483647 * 16807 + 7 * (k : Int) + 3) % 2147483647) / 3], by simp; omega, inr zs _ z2 (by omega) (by omega), .val (.int (k : Int)), .val (.int (x.natAbs : Int)), s7, .val (.int (((x.natAbs : Int) * 48271 + (k : Int) * 69621 + 11) % 2147483647)), rfl⟩
          have h10 : opD .Pow (.int 10) (.int 18) = .ok (.val (.int 1000000000000000000)) := by simp [opD]
          simp [at1, h10, hb, h2, m1, m2, m3, m4, opD_mod, dv, hlen]
        · refine ⟨_, ?_, zs, z1, z2, .val (.int (k : Int)), .val (.int (x.natAbs : Int)), s7, s8, rfl⟩
          have h10 : opD .Pow (.int 10) (.int 18) = .ok (.val (.int 1000000000000000000)) := by simp [opD]
          simp [at1, h10, hb, h2])
  obtain ⟨s', w2, ys, y1, y2, l, s3', l0, l1, rfl⟩ := forL_inv (g := asg (.nm 3)) (b := evTs G sub fuel [.iff (.cmp .Gt (.var 4) (.k (.int 0))) [.asg (.nm 5) (.op .Add (.var 5) (.ix (.var 2) (.op .Mod (.var 3) (.var 4))))] [], .asg (.nm 5) (.op .Mod (.blt .int [.op .Add (.op .Mult (.var 5) (.k (.int 48271))) (.var 3)]) (.k (.int 2147483647))), .app 2 (.op .FloorDiv (.var 5) (.k (.int 7)))])
    (fun i s => ∃ ys : List Int, ys.length = zs.length + i ∧ (∀ z ∈ ys, 0 ≤ z ∧ z < 2147483648) ∧ ∃ (l : Int) (s3 : S), 0 ≤ l ∧ l < 2147483648 ∧ s = [.val (.scr (ns.map .int)), .val (.int many), .own (ys.map .int), s3, .val (.int zs.length), .val (.int l), s6, s7, s8])
    (rngL 0 ((many : Int) - zs.length)) [.val (.scr (ns.map .int)), .val (.int many), .own (zs.map .int), s3, .val (.int zs.length), .val (.int (5381 + (ns.length : Int))), s6, s7, s8] ⟨zs, rfl, z2, _, _, by omega, by omega, rfl⟩
    (by
      rintro k d s hd ⟨ys, y1, y2, l, s3, l0, l1, rfl⟩
      obtain ⟨rfl, hk⟩ := rngL0_get hd
      refine ⟨_, by simp; rfl, ?_⟩
      have hlen : ys.length < 16777216 := by omega
      have dv : ∀ c : Int, opD .FloorDiv (.int c) (.int 7) = .ok (.val (.int (c / 7))) := fun c => opD_div (by omega) (by decide +kernel)
      by_cases h0 : 0 < zs.length
      · have b1 := Int.emod_nonneg (k : Int) (show (zs.length : Int) ≠ 0 by omega)
        have b2 := Int.emod_lt_of_pos (k : Int) (show (0 : Int) < (zs.length : Int) by omega)
        have md : opD .Mod (.int (k : Int)) (.int (zs.length : Int)) = .ok (.val (.int ((k : Int) % (zs.length : Int)))) := opD_mod (by omega)
        generalize (k : Int) % (zs.length : Int) = ix at *
        have hix : ix.toNat < ys.length := by omega
        obtain ⟨x, hx⟩ : ∃ x, x = ys[ix.toNat] := ⟨_, rfl⟩
        have hx2 := y2 x (by rw [hx]; exact List.getElem_mem _)
        have at1 : atI (ys.map D.int) ix = some (.int x) := by
          rw [atI_map _ _ _ (by omega) (by omega), List.getElem?_eq_getElem hix, ← hx]; rfl
        have m1 : opD .Mult (.int (l + x)) (.int 48271) = .ok (.val (.int ((l + x) * 48271))) := opD_mulS (k := 33) (m := 32) (Sz.of_lt (n := 4294967296) (by omega) (by omega) (by omega)) (by unfold Sz; decide) (by omega)
        refine ⟨_, ?_, ys ++ [(((l + x) * 48271 + (k : Int)) % 2147483647) / 7], by simp; omega, inr ys _ y2 (by omega) (by omega), ((l + x) * 48271 + (k : Int)) % 2147483647, .val (.int (k : Int)), by omega, by omega, rfl⟩
        simp [h0, md, at1, m1, opD_mod, dv, hlen]
      · have m1 : opD .Mult (.int l) (.int 48271) = .ok (.val (.int (l * 48271))) := opD_mulS (k := 33) (m := 32) (Sz.of_lt (n := 4294967296) (by omega) (by omega) (by omega)) (by unfold Sz; decide) (by omega)
        refine ⟨_, ?_, ys ++ [((l * 48271 + (k : Int)) % 2147483647) / 7], by simp; omega, inr ys _ y2 (by omega) (by omega), (l * 48271 + (k : Int)) % 2147483647, .val (.int (k : Int)), by omega, by omega, rfl⟩
        simp [h0, m1, opD_mod, dv, hlen])
  rw [rngL_len] at y1
  have y3 : ys.length = many := by omega
  refine ⟨ys, ⟨y3, y2⟩, ?_⟩
  have hsm : small (ns.length : Int) = true := by unfold small; simp; omega
  have mx : bltD .max2 [.int 0, .int ((many : Int) - zs.length)] = .ok (.val (.int ((many : Int) - zs.length))) := by
    show M.ok (R.val (D.int (if (many : Int) - zs.length > 0 then (many : Int) - zs.length else 0))) = _
    split
    · rfl
    · have : (many : Int) - zs.length = 0 := by omega
      rw [this]
  have hsm2 : small ((many : Int) - zs.length) = true := by unfold small; simp; omega
  have ct : cut (ys.map D.int) none (some (many : Int)) = ys.map .int := by
    unfold cut
    rw [show sIx (ys.map D.int).length 0 none = 0 from rfl, List.drop_zero, Nat.sub_zero]
    refine List.take_of_length_le ?_
    rw [List.length_map]; unfold sIx; simp only; rw [if_neg (by omega)]; omega
  simp -implicitDefEqProofs [d__law_numbers, b__law_numbers, startS, hsm, loopF, w1, mx, hsm2, w2, ct]
end
end EV

set_option linter.all false
set_option autoImplicit false
set_option maxRecDepth 20000
namespace EV
def pkS (zs : List Int) (i : Int) : Int := (zs[(i % (zs.length : Int)).toNat]?).getD 0
theorem pkS_at {zs : List Int} {n : Nat} (hz : NumsS zs n) (hn : 1 ≤ n) (i : Int) : opD .Mod (.int i) (.int (zs.length : Int)) = .ok (.val (.int (i % (zs.length : Int)))) ∧ atI (zs.map D.int) (i % (zs.length : Int)) = some (.int (pkS zs i)) ∧ 0 ≤ pkS zs i ∧ pkS zs i < 2147483648 := by
  have hl : (0 : Int) < (zs.length : Int) := by have := hz.1; omega
  have e0 := Int.emod_nonneg i (Int.ne_of_gt hl)
  have e1 := Int.emod_lt_of_pos i hl
  have e2 : (i % (zs.length : Int)).toNat < zs.length := by omega
  have hp : pkS zs i = zs[(i % (zs.length : Int)).toNat] := by simp [pkS, List.getElem?_eq_getElem e2]
  refine ⟨opD_mod hl, ?_, ?_⟩
  · rw [atI_map _ _ _ e0 e1, List.getElem?_eq_getElem e2, hp]; rfl
  · rw [hp]; exact hz.2 _ (List.getElem_mem _)
def partQ (n : Int) : Rat := if n % 7 < 2 then 0 else if n % 7 < 5 then ((n / 7 % 7 - 3 : Int) : Rat) else Rat.divInt (n / 7 % 11 - 5) (1 + n / 77 % 4)
theorem partQ_sz (n : Int) : QS (partQ n) 5 := by
  unfold partQ
  split
  · exact QS.zero.mono (by omega)
  · split
    · exact QS.ofInt (by unfold Sz; omega) (by omega)
    · exact QS.divInt (by omega) (by unfold Sz; omega) (by unfold Sz; omega)
def boundQ (n low : Int) : Rat := Rat.divInt (n % 25 - low) (1 + n / 25 % 3)
theorem boundQ_sz (n low : Int) (h0 : 0 ≤ low) (h1 : low ≤ 100) : QS (boundQ n low) 8 := by
  unfold boundQ
  exact QS.divInt (by omega) (by unfold Sz; omega) (by unfold Sz; omega)
def rowS (zs : List Int) (i : Int) (w : Nat) : List Rat := (List.range w).map fun k : Nat => partQ (pkS zs (i + 3 * (k : Int)))
theorem rowS_len (zs : List Int) (i : Int) (w : Nat) : (rowS zs i w).length = w := by simp [rowS]
theorem rowS_sz (zs : List Int) (i : Int) (w : Nat) : RS (rowS zs i w) 5 := by
  intro q hq
  obtain ⟨p, hp, rfl⟩ := List.mem_map.mp hq
  exact partQ_sz _
/-- a condition -/
structure Cond where
  a : List Rat
  le : Bool
  b : Rat
def relS (b : Bool) : PySem.Str := if b then "<=" else "="
def cD (c : Cond) : D := .tup [rowD c.a, .str (relS c.le), qd c.b]
/-- a system -/
def sysD (w : Nat) (cs : List Cond) : D := .tup [.int w, .tup (cs.map cD)]
def condS (zs : List Int) (w : Nat) (low : Int) (k : Nat) : Cond := ⟨rowS zs (13 + 41 * (k : Int)) w, decide (pkS zs (7 + 5 * (k : Int)) % 3 ≤ 1), boundQ (pkS zs (11 + 5 * (k : Int))) low⟩
section
variable {G : Env} {sub : Sub} {fuel : Nat}
def PPart (g : List D → M R) : Prop := ∀ n : Int, 0 ≤ n → g [.int n] = .ok (.val (qd (partQ n)))
theorem ok_part (h14 : Has G 14 PLRatio2) : PPart (d__law_part.fn.run G sub fuel) := by
  obtain ⟨k, i, j⟩ := h14
  intro n hn
  rw [d_run rfl rfl]
  have m7 : ∀ x : Int, opD .Mod (.int x) (.int 7) = .ok (.val (.int (x % 7))) := fun x => opD_mod (by omega)
  have dv : ∀ c : Int, opD .FloorDiv (.int c) (.int 7) = .ok (.val (.int (c / 7))) := fun c => opD_div (by omega) (by decide +kernel)
  have dv2 : ∀ c : Int, opD .FloorDiv (.int c) (.int 77) = .ok (.val (.int (c / 77))) := fun c => opD_div (by omega) (by decide +kernel)
  unfold partQ
  by_cases h1 : n % 7 < 2
  · rw [if_pos h1]
    simp -implicitDefEqProofs [d__law_part, b__law_part, startS, m7, h1]
    rfl
  · rw [if_neg h1]
    by_cases h2 : n % 7 < 5
    · rw [if_pos h2, qd_int]
      simp -implicitDefEqProofs [d__law_part, b__law_part, startS, m7, h1, h2, dv]
    · rw [if_neg h2]
      have e := j (n / 7 % 11 - 5) (1 + n / 77 % 4) (by omega) (Sz.mono (k := 5) (by unfold Sz; omega) (by omega))
      generalize Rat.divInt (n / 7 % 11 - 5) (1 + n / 77 % 4) = q at *
      simp -implicitDefEqProofs [d__law_part, b__law_part, startS, m7, h1, h2, dv, dv2, opD_mod, i, e]
def PBound (g : List D → M R) : Prop := ∀ n low : Int, 0 ≤ low → low ≤ 100 → g [.int n, .int low] = .ok (.val (qd (boundQ n low)))
theorem ok_bound (h14 : Has G 14 PLRatio2) : PBound (d__law_bound.fn.run G sub fuel) := by
  obtain ⟨k, i, j⟩ := h14
  intro n low h0 h1
  rw [d_run rfl rfl]
  have dv : ∀ c : Int, opD .FloorDiv (.int c) (.int 25) = .ok (.val (.int (c / 25))) := fun c => opD_div (by omega) (by decide +kernel)
  have e := j (n % 25 - low) (1 + n / 25 % 3) (by omega) (Sz.mono (k := 5) (by unfold Sz; omega) (by omega))
  unfold boundQ
  generalize Rat.divInt (n % 25 - low) (1 + n / 25 % 3) = q at *
  simp -implicitDefEqProofs [d__law_bound, b__law_bound, startS, opD_mod, dv, i, e]
def PRowS (g : List D → M R) : Prop := ∀ (zs : List Int) (n : Nat) (i : Int) (w : Nat), NumsS zs n → 1 ≤ n → n ≤ 1000 → w ≤ 30 → g [.lst (zs.map .int), .int i, .int w] = .ok (.val (rowD (rowS zs i w)))
theorem ok_rowS (h48 : Has G 48 PPart) : PRowS (d__law_row_v3.fn.run G sub fuel) := by
  obtain ⟨k1, i1, j1⟩ := h48
  intro zs n i w hz hn hn2 hw
  rw [d_run rfl rfl]
  have lc : ∀ s3, lcE G sub [3] (.nm 3) none (.call 48 [.ix (.var 0) (.op .Mod (.blt .int [.op .Add (.var 1) (.op .Mult (.k (.int 3)) (.var 3))]) (.blt .len [.var 0]))]) [.val (.lst (zs.map .int)), .val (.int i), .val (.int w), s3] [] (rngL 0 w) = .ok ((rowS zs i w).map qd) := by
    intro s3
    rw [rngL0_map, rowS, List.map_map]
    refine lcE_map _ fun k hk => ?_
    have hk' := List.mem_range.mp hk
    have m1 : opD .Mult (.int 3) (.int (k : Int)) = .ok (.val (.int (3 * (k : Int)))) := opD_mulS (k := 10) (m := 10) (by unfold Sz; decide) (Sz.of_lt (n := 40) (by omega) (by omega) (by omega)) (by omega)
    obtain ⟨a1, a2, a3, a4⟩ := pkS_at hz hn (i + 3 * (k : Int))
    have := j1 (pkS zs (i + 3 * (k : Int))) a3
    simp [lcF, wipe, i1, m1, a1, a2, this]
  have hsm : small (w : Int) = true := by unfold small; simp; omega
  have hl : (rngL 0 (w : Int)).length ≤ 16777216 := by rw [rngL_len]; omega
  generalize rowS zs i w = r at *
  simp -implicitDefEqProofs [-blt_tuple_lst, d__law_row_v3, b__law_row_v3, startS, hsm, hl, lc]
end
end EV

set_option linter.all false
set_option autoImplicit false
set_option maxRecDepth 20000
namespace EV
def keptQ (t : Rat) (le : Bool) (b : Rat) : Bool := decide (t = b) || (le && decide (t < b))
def keptC (c : Cond) (x : List Rat) : Bool := keptQ (dot c.a x) c.le c.b
theorem rel_deep (le t : Bool) : deepM (.str (relS le)) (.str "<=") t = .ok (.val (.bl t)) := by
  have : ∀ le, wf 60 (.str (relS le)) = true := by intro le; cases le <;> decide +kernel
  unfold deepM
  rw [this, show wf 60 (.str "<=") = true by decide +kernel]
  rfl
theorem rel_eq (le : Bool) : eqD (.str (relS le)) (.str "<=") = le := by cases le <;> decide +kernel
theorem cmpQ_0 (a b : Rat) : (cmpQ a b = 0) ↔ a = b := by unfold cmpQ; (repeat' split) <;> simp_all
theorem cmpQ_neg (a b : Rat) : (cmpQ a b < 0) ↔ a < b := by
  unfold cmpQ
  split
  · rename_i h; subst h; simp
  · split
    · simp; grind
    · simp; grind
section
variable {G : Env} {sub : Sub} {fuel : Nat}
def PSystem (g : List D → M R) : Prop := ∀ (zs : List Int) (n w c : Nat) (low : Int), NumsS zs n → 1 ≤ n → n ≤ 1000 → w ≤ 30 → c ≤ 60 → 0 ≤ low → low ≤ 100 → g [.lst (zs.map .int), .int w, .int c, .int low] = .ok (.val (sysD w ((List.range c).map (condS zs w low))))
theorem ok_system (h49 : Has G 49 PBound) (h37 : Has G 37 PRowS) : PSystem (d__law_system.fn.run G sub fuel) := by
  obtain ⟨k1, i1, j1⟩ := h49
  obtain ⟨k2, i2, j2⟩ := h37
  intro zs n w c low hz hn hn2 hw hc h0 h1
  rw [d_run rfl rfl]
  obtain ⟨s', w1, s5, s6, s7, rfl⟩ := forL_inv (g := asg (.nm 5)) (b := evTs G sub fuel [.asg (.nm 6) (.ix (.lst [.k (.str "<="), .k (.str "<="), .k (.str "=")]) (.op .Mod (.ix (.var 0) (.op .Mod (.blt .int [.op .Add (.k (.int 7)) (.op .Mult (.k (.int 5)) (.var 5))]) (.blt .len [.var 0]))) (.k (.int 3)))), .asg (.nm 7) (.call 49 [.ix (.var 0) (.op .Mod (.blt .int [.op .Add (.k (.int 11)) (.op .Mult (.k (.int 5)) (.var 5))]) (.blt .len [.var 0])), .var 3]), .frz 6, .frz 7, .app 4 (.tup [.call 37 [.var 0, .op .Add (.k (.int 13)) (.op .Mult (.k (.int 41)) (.var 5)), .var 1], .var 6, .var 7])])
    (fun j s => ∃ s5 s6 s7, s = [.val (.lst (zs.map .int)), .val (.int w), .val (.int c), .val (.int low), .own (((List.range j).map (condS zs w low)).map cD), s5, s6, s7])
    (rngL 0 (c : Int)) [.val (.lst (zs.map .int)), .val (.int w), .val (.int c), .val (.int low), .own [], .emp, .emp, .emp] ⟨.emp, .emp, .emp, rfl⟩
    (by
      rintro k d s hd ⟨s5, s6, s7, rfl⟩
      obtain ⟨rfl, hk⟩ := rngL0_get hd
      refine ⟨_, by simp; rfl, ?_⟩
      have m1 : opD .Mult (.int 5) (.int (k : Int)) = .ok (.val (.int (5 * (k : Int)))) := opD_mulS (k := 10) (m := 10) (by unfold Sz; decide) (Sz.of_lt (n := 100) (by omega) (by omega) (by omega)) (by omega)
      have m2 : opD .Mult (.int 41) (.int (k : Int)) = .ok (.val (.int (41 * (k : Int)))) := opD_mulS (k := 10) (m := 10) (by unfold Sz; decide) (Sz.of_lt (n := 100) (by omega) (by omega) (by omega)) (by omega)
      obtain ⟨a1, a2, a3, a4⟩ := pkS_at hz hn (7 + 5 * (k : Int))
      obtain ⟨b1, b2, b3, b4⟩ := pkS_at hz hn (11 + 5 * (k : Int))
      have e1 := j1 (pkS zs (11 + 5 * (k : Int))) low h0 h1
      have e2 := j2 zs n (13 + 41 * (k : Int)) w hz hn hn2 hw
      have rel : M.ofO (atI [D.str "<=", .str "<=", .str "="] (pkS zs (7 + 5 * (k : Int)) % 3)) = .ok (.str (relS (decide (pkS zs (7 + 5 * (k : Int)) % 3 ≤ 1)))) := by
        have : pkS zs (7 + 5 * (k : Int)) % 3 = 0 ∨ pkS zs (7 + 5 * (k : Int)) % 3 = 1 ∨ pkS zs (7 + 5 * (k : Int)) % 3 = 2 := by omega
        rcases this with h | h | h <;> rw [h] <;> rfl
      have hl : k < 16777216 := by omega
      refine ⟨_, ?_, .val (.int (k : Int)), .val (.str (relS (decide (pkS zs (7 + 5 * (k : Int)) % 3 ≤ 1)))), .val (qd (boundQ (pkS zs (11 + 5 * (k : Int))) low)), rfl⟩
      have hc : cD (condS zs w low k) = .tup [rowD (rowS zs (13 + 41 * (k : Int)) w), .str (relS (decide (pkS zs (7 + 5 * (k : Int)) % 3 ≤ 1))), qd (boundQ (pkS zs (11 + 5 * (k : Int))) low)] := rfl
      rw [List.range_succ, List.map_append, List.map_append, List.map_singleton, List.map_singleton, hc]
      obtain ⟨cs, hcs⟩ : ∃ cs, cs = ((List.range k).map (condS zs w low)).map cD := ⟨_, rfl⟩
      have hlen : cs.length < 16777216 := by rw [hcs]; simpa using hl
      rw [← hcs]
      generalize rowS zs (13 + 41 * (k : Int)) w = r at *
      generalize boundQ (pkS zs (11 + 5 * (k : Int))) low = bq at *
      generalize relS (decide (pkS zs (7 + 5 * (k : Int)) % 3 ≤ 1)) = rl at *
      simp [-List.map_map, i1, i2, m1, m2, a1, a2, b1, b2, e1, e2, rel, opD_mod, hlen, hl]
      rw [hcs, List.map_map])
  have hsm : small (c : Int) = true := by unfold small; simp; omega
  rw [rngL_len, show ((c : Int) - 0).toNat = c by omega] at w1
  have hs : sysD w ((List.range c).map (condS zs w low)) = .tup [.int w, .tup (((List.range c).map (condS zs w low)).map cD)] := rfl
  rw [hs]
  generalize ((List.range c).map (condS zs w low)).map cD = cs at *
  simp -implicitDefEqProofs [d__law_system, b__law_system, startS, hsm, loopF, w1]
def PKept (g : List D → M R) : Prop := ∀ (t : Rat) (le : Bool) (b : Rat), QS t 4000 → QS b 4000 → g [qd t, .str (relS le), qd b] = .ok (.val (.bl (keptQ t le b)))
theorem ok_kept (h17 : Has G 17 PCmp) : PKept (d_is_kept.fn.run G sub fuel) := by
  obtain ⟨k, i, j⟩ := h17
  intro t le b ht hb
  rw [d_run rfl rfl]
  have e := j t b ht hb
  have h1 := cmpQ_0 t b
  have h2 := cmpQ_neg t b
  unfold keptQ
  by_cases c1 : t = b
  · have d1 := h1.mpr c1
    have c1' : (t = b) = True := eq_true c1
    simp -implicitDefEqProofs [d_is_kept, b_is_kept, startS, i, e, d1, c1']
  · have d1 : ¬ cmpQ t b = 0 := fun h => c1 (h1.mp h)
    by_cases c2 : t < b
    · have d2 := h2.mpr c2
      simp -implicitDefEqProofs [d_is_kept, b_is_kept, startS, i, e, d1, d2, c1, c2, rel_deep, rel_eq]
    · have d2 : ¬ cmpQ t b < 0 := fun h => c2 (h2.mp h)
      simp -implicitDefEqProofs [d_is_kept, b_is_kept, startS, i, e, d1, d2, c1, c2]
def PKeeps (g : List D → M R) : Prop := ∀ (c : Cond) (x : List Rat) (k m : Nat), c.a.length = x.length → RS c.a k → RS x m → QS c.b 4000 → k ≤ 4000 → m ≤ 4000 → c.a.length * (k + m + 1) + 1 ≤ 3999 → c.a.length < 1000 → g [cD c, rowD x] = .ok (.val (.bl (keptC c x)))
theorem ok_keeps (h53 : Has G 53 PKept) (h36 : Has G 36 PProd) : PKeeps (d_keeps.fn.run G sub fuel) := by
  obtain ⟨k1, i1, j1⟩ := h53
  obtain ⟨k2, i2, _, j2⟩ := h36
  intro c x k m h ha hx hb hk hm hs hl
  rw [d_run rfl rfl]
  have e2 := j2 c.a x k m h ha hx hk hm hs hl
  have e1 := j1 (dot c.a x) c.le c.b ((QS_dot ha hx).mono (by omega)) hb
  have at2 : ∀ p q r : D, atI [p, q, r] 2 = some r := fun p q r => rfl
  simp -implicitDefEqProofs [d_keeps, b_keeps, startS, cD, i1, i2, e1, e2, at2, keptC]
def PPos (g : List D → M R) : Prop := ∀ (x : List Rat) (w : Int), x.length < 1000 → g [rowD x, .int w] = .ok (.val (.bl (decide ((x.length : Int) = w) && x.all fun q => decide (0 ≤ q.num))))
theorem boolsOfD {α : Type} (f : α → Bool) (xs : List α) : boolsOf (xs.map fun x => D.bl (f x)) = some (xs.map f) := by
  induction xs with
  | nil => rfl
  | cons x r ih => simp only [List.map_cons, boolsOf, ih, Option.map_some]
theorem all_mapD {α : Type} (f : α → Bool) (xs : List α) : bltD .all [.lst (xs.map fun x => D.bl (f x))] = .ok (.val (.bl (xs.all f))) := by
  show (M.ofO (boolsOf _)).bind _ = _
  rw [boolsOfD]
  simp [List.all_map]
theorem sg_nn (n : Int) : (0 ≤ sg n) ↔ 0 ≤ n := by unfold sg; (repeat' split) <;> omega
theorem ok_pos (h13 : Has G 13 PSign) : PPos (d_is_positive.fn.run G sub fuel) := by
  obtain ⟨k, i, j⟩ := h13
  intro x w hl
  rw [d_run rfl rfl]
  have lc : ∀ s1 s2, lcE G sub [2] (.nm 2) none (.cmp .GtE (.call 13 [.var 2]) (.k (.int 0))) [.val (rowD x), s1, s2] [] (x.map qd) = .ok (x.map fun q => .bl (decide (0 ≤ q.num))) := by
    intro s1 s2
    refine lcE_map _ fun q hq => ?_
    have e : k [qd q] = .ok (.val (.int (sg q.num))) := j _ _
    have e2 : decide (0 ≤ sg q.num) = decide (0 ≤ q.num) := by rw [decide_eq_decide, sg_nn]
    simp only [lcF, wipe, asg_nm]
    simp [i, e, e2]
  have al := all_mapD (fun q : Rat => decide (0 ≤ q.num)) x
  have hl2 : x.length ≤ 16777216 := by omega
  by_cases h : (x.length : Int) = w
  · generalize (x.map fun q : Rat => D.bl (decide (0 ≤ q.num))) = bs at *
    generalize (x.all fun q => decide (0 ≤ q.num)) = bb at *
    simp -implicitDefEqProofs [d_is_positive, b_is_positive, startS, h, hl2, lc, al]
  · simp -implicitDefEqProofs [d_is_positive, b_is_positive, startS, h]
end
end EV

set_option linter.all false
set_option autoImplicit false
set_option maxRecDepth 20000
namespace EV
def histQ (w : Nat) (cs : List Cond) (x : List Rat) : Bool := decide (x.length = w) && x.all (fun q => decide (0 ≤ q.num)) && cs.all fun c => keptC c x
/-- a system of small ratios -/
def SysOk (w : Nat) (cs : List Cond) : Prop := w < 30 ∧ cs.length < 1000 ∧ ∀ c ∈ cs, c.a.length = w ∧ RS c.a 10 ∧ QS c.b 400
section
variable {G : Env} {sub : Sub} {fuel : Nat}
def PHist (g : List D → M R) : Prop := ∀ (w : Nat) (cs : List Cond) (x : List Rat), SysOk w cs → RS x 20 → x.length < 40 → g [sysD w cs, rowD x] = .ok (.val (.bl (histQ w cs x)))
theorem ok_hist (h54 : Has G 54 PPos) (h55 : Has G 55 PKeeps) : PHist (d_is_history.fn.run G sub fuel) := by
  obtain ⟨k1, i1, j1⟩ := h54
  obtain ⟨k2, i2, j2⟩ := h55
  intro w cs x hs hx hl
  rw [d_run rfl rfl]
  have e := j1 x (w : Int) (by omega)
  have hw : decide ((x.length : Int) = w) = decide (x.length = w) := by rw [decide_eq_decide]; omega
  rw [hw] at e
  have hd : sysD w cs = .tup [.int w, .tup (cs.map cD)] := rfl
  unfold histQ
  by_cases hp : (decide (x.length = w) && x.all fun q => decide (0 ≤ q.num)) = true
  · rw [hp] at e ⊢
    rw [Bool.true_and]
    have hxw : x.length = w := by
      have := (Bool.and_eq_true _ _ ▸ hp : _ ∧ _).1
      exact of_decide_eq_true this
    have lc : ∀ s0 s2, lcE G sub [2] (.nm 2) none (.call 55 [.var 2, .var 1]) [s0, .val (rowD x), s2] [] (cs.map cD) = .ok (cs.map fun c => .bl (keptC c x)) := by
      intro s0 s2
      refine lcE_map _ fun c hc => ?_
      obtain ⟨c1, c2, c3⟩ := hs.2.2 c hc
      have hwl := hs.1
      have b : c.a.length * (10 + 20 + 1) ≤ 30 * 31 := Nat.mul_le_mul_right _ (by omega)
      have e2 := j2 c x 10 20 (by omega) c2 hx (c3.mono (by omega)) (by omega) (by omega) (by omega) (by omega)
      simp [lcF, wipe, i2, e2]
    have al := all_mapD (fun c : Cond => keptC c x) cs
    have hl2 : cs.length ≤ 16777216 := by have := hs.2.1; omega
    have hcl : (cs.map cD).length ≤ 16777216 := by simpa using hl2
    generalize (cs.map fun c : Cond => D.bl (keptC c x)) = bs at *
    generalize (cs.all fun c => keptC c x) = bb at *
    generalize cs.map cD = cl at *
    rw [hd]
    simp -implicitDefEqProofs [d_is_history, b_is_history, startS, i1, e, hcl, lc, al]
  · have hp' : (decide (x.length = w) && x.all fun q => decide (0 ≤ q.num)) = false := by simpa using hp
    rw [hp'] at e ⊢
    rw [hd]
    generalize cs.map cD = cl at *
    simp -implicitDefEqProofs [d_is_history, b_is_history, startS, i1, e]
def PLProd (g : List D → M R) : Prop := ∀ (a x : List Rat), a.length = x.length → RS a 10 → RS x 10 → a.length < 30 → g [rowD a, rowD x] = .ok (.val (qd (dot a x)))
theorem ok_lprod (h21 : Has G 21 fun g => ∀ a b, QS a 900 → QS b 900 → g [qd a, qd b] = .ok (.val (qd (a + b)))) (h31 : Has G 31 fun g => ∀ a b, QS a 900 → QS b 900 → g [qd a, qd b] = .ok (.val (qd (a * b)))) : PLProd (d__law_product.fn.run G sub fuel) := by
  obtain ⟨k1, i1, j1⟩ := h21
  obtain ⟨k2, i2, j2⟩ := h31
  intro a x h ha hx hl
  rw [d_run rfl rfl]
  obtain ⟨s', w1, s3, rfl⟩ := forL_inv (g := asg (.nm 3)) (b := evTs G sub fuel [.iff (.and (.cmp .NotEq (.ix (.ix (.var 0) (.var 3)) (.k (.int 0))) (.k (.int 0))) (.one (.cmp .NotEq (.ix (.ix (.var 1) (.var 3)) (.k (.int 0))) (.k (.int 0))))) [.frz 2, .asg (.nm 2) (.call 21 [.var 2, .call 31 [.ix (.var 0) (.var 3), .ix (.var 1) (.var 3)]])] []])
    (fun i s => ∃ s3, s = [.val (rowD a), .val (rowD x), .val (qd ((List.zipWith (· * ·) a x).take i).sum), s3])
    (rngL 0 a.length) [.val (rowD a), .val (rowD x), .val (qd 0), .emp] ⟨.emp, by rw [List.take_zero, List.sum_nil]⟩
    (by
      rintro i d s hd ⟨s3, rfl⟩
      obtain ⟨rfl, hi⟩ := rngL0_get hd
      refine ⟨_, by simp; rfl, ?_⟩
      have hi' : i < a.length := by omega
      have p1 : a[i]? = some a[i] := List.getElem?_eq_getElem hi'
      have p2 : x[i]? = some x[i] := List.getElem?_eq_getElem (by omega)
      have q1 := ix_row (a := a) (i := (i : Int)) (by omega) (by rw [Int.toNat_natCast]; exact p1)
      have q2 := ix_row (a := x) (i := (i : Int)) (by omega) (by rw [Int.toNat_natCast]; exact p2)
      have b1 := ha _ (List.mem_of_getElem? p1)
      have b2 := hx _ (List.mem_of_getElem? p2)
      have hz : (List.zipWith (· * ·) a x)[i]? = some (a[i] * x[i]) := by
        rw [List.getElem?_zipWith, p1, p2]
      have hsum : ((List.zipWith (· * ·) a x).take (i + 1)).sum = ((List.zipWith (· * ·) a x).take i).sum + a[i] * x[i] := by
        rw [List.take_add_one, hz, List.sum_append]
        simp [Rat.add_zero]
      have hsz : QS ((List.zipWith (· * ·) a x).take i).sum 631 := by
        refine (QS_sum (m := 20) fun q hq => (RS_zip ha hx q (List.mem_of_mem_take hq)).mono (by omega)).mono ?_
        rw [List.length_take]
        have := Nat.mul_le_mul_right 21 (show min i (List.zipWith (· * ·) a x).length ≤ 30 by omega)
        omega
      have f1 := j2 _ _ (b1.mono (by omega)) (b2.mono (by omega))
      have f2 := j1 ((List.zipWith (· * ·) a x).take i).sum (a[i] * x[i]) (hsz.mono (by omega)) ((QS.mul b1 b2).mono (by omega))
      refine ⟨_, ?_, .val (.int (i : Int)), rfl⟩
      rw [hsum]
      generalize ((List.zipWith (· * ·) a x).take i).sum = t at *
      generalize a[i] = ai at *
      generalize x[i] = xi at *
      by_cases h1 : ai = 0
      · have z : t + ai * xi = t := by rw [h1]; grind
        have h1' : (ai = 0) = True := eq_true h1
        rw [z]
        simp [q1, q2, h1']
      · by_cases h2 : xi = 0
        · have z : t + ai * xi = t := by rw [h2]; grind
          have h2' : (xi = 0) = True := eq_true h2
          rw [z]
          simp [q1, q2, h1, h2']
        · simp [i1, i2, q1, q2, f1, f2, h1, h2])
  have hd : ((List.zipWith (· * ·) a x).take (rngL 0 (a.length : Int)).length).sum = dot a x := by
    unfold dot
    rw [List.take_of_length_le (by rw [rngL_len, List.length_zipWith]; omega)]
  rw [hd] at w1
  have hsm : small (a.length : Int) = true := by unfold small; simp; omega
  have w2 : loopF G sub fuel (.nm 3) [.iff (.and (.cmp .NotEq (.ix (.ix (.var 0) (.var 3)) (.k (.int 0))) (.k (.int 0))) (.one (.cmp .NotEq (.ix (.ix (.var 1) (.var 3)) (.k (.int 0))) (.k (.int 0))))) [.frz 2, .asg (.nm 2) (.call 21 [.var 2, .call 31 [.ix (.var 0) (.var 3), .ix (.var 1) (.var 3)]])] []] [] (rngL 0 (a.length : Int)) [.val (rowD a), .val (rowD x), .val (.tup [.int 0, .int 1]), .emp] = .nx [.val (rowD a), .val (rowD x), .val (qd (dot a x)), s3] := w1
  simp -implicitDefEqProofs [d__law_product, b__law_product, startS, hsm, w2]
end
end EV

set_option linter.all false
set_option autoImplicit false
set_option maxRecDepth 20000
namespace EV
@[simp] theorem callG_ex (g : List D → M R) (c : Nat) : callG (some g) (.ex c) = .ex c := rfl
/-- any pair of integers -/
def prD (p : Int × Int) : D := .tup [.int p.1, .int p.2]
def isR (p : Int × Int) : Bool := decide (1 ≤ p.2) && decide (Int.gcd p.1 p.2 = 1)
theorem qd_pr (q : Rat) : qd q = prD (q.num, q.den) := rfl
theorem rowD_pr (qs : List Rat) : rowD qs = .tup ((qs.map fun q => (q.num, (q.den : Int))).map prD) := by
  unfold rowD; rw [List.map_map]; rfl
theorem isR_q (q : Rat) : isR (q.num, (q.den : Int)) = true := by
  unfold isR
  have h := q.reduced
  have h2 := den_pos q
  have h3 : Int.gcd q.num q.den = 1 := by simpa [Int.gcd] using h
  simp [h3]
theorem cut_take {α : Type} (xs : List α) (i : Int) (h0 : 0 ≤ i) (h1 : i ≤ xs.length) : cut xs none (some i) = xs.take i.toNat := by
  unfold cut
  rw [show sIx xs.length 0 none = 0 from rfl, List.drop_zero, Nat.sub_zero]
  have : sIx xs.length xs.length (some i) = i.toNat := by unfold sIx; simp only; rw [if_neg (by omega)]; omega
  rw [this]
theorem cut_drop {α : Type} (xs : List α) (i : Int) (h0 : 0 ≤ i) (h1 : i ≤ xs.length) : cut xs (some i) none = xs.drop i.toNat := by
  unfold cut
  have : sIx xs.length 0 (some i) = i.toNat := by unfold sIx; simp only; rw [if_neg (by omega)]; omega
  rw [this, show sIx xs.length xs.length none = xs.length from rfl]
  exact List.take_of_length_le (by rw [List.length_drop]; omega)
theorem opD_addT (a b : List D) (h : a.length + b.length ≤ 16777216) : opD .Add (.tup a) (.tup b) = .ok (.val (.tup (a ++ b))) := by
  simp only [opD, guardM]
  rw [if_pos (by simpa using h)]
section
variable {G : Env} {sub : Sub} {fuel : Nat}
def PCheckRow (g : List D → M R) : Prop := ∀ ps : List (Int × Int), (∀ p ∈ ps, Sz p.2 8000) → ps.length < 1000 → g [.tup (ps.map prD)] = if 1 ≤ ps.length ∧ ps.length ≤ 24 ∧ ps.all isR = true then .ok (.val .non) else .ex 1
theorem ok_check_row (h8 : Has G 8 (PIsR 8000)) : PCheckRow (d_check_row.fn.run G sub fuel) := by
  obtain ⟨k, i8, j8⟩ := h8
  intro ps hs hl
  rw [d_run rfl rfl]
  have lc : ∀ s, lcE G sub [1] (.nm 1) none (.call 8 [.var 1]) [.val (.tup (ps.map prD)), s] [] (ps.map prD) = .ok (ps.map fun p => .bl (isR p)) := by
    intro s
    refine lcE_map _ fun p hp => ?_
    have := j8 p.1 p.2 (hs p hp)
    have e : k [prD p] = .ok (.val (.bl (isR p))) := this
    simp [lcF, wipe, i8, e]
  have hl2 : ps.length ≤ 16777216 := by omega
  have al := all_mapD isR ps
  by_cases h1 : 1 ≤ ps.length
  · by_cases h2 : ps.length ≤ 24
    · have c1 : ¬ ((ps.length : Int) < 1) := by omega
      have c2 : ¬ ((24 : Int) < (ps.length : Int)) := by omega
      by_cases h3 : ps.all isR = true
      · rw [h3] at al
        rw [if_pos ⟨h1, h2, h3⟩]
        simp only [d_check_row, b_check_row, startS]
        simp [c1, c2, hl2, lc, al]
      · have h3' : ps.all isR = false := by simpa using h3
        rw [h3'] at al
        rw [if_neg (fun h => h3 h.2.2)]
        simp only [d_check_row, b_check_row, startS]
        simp [c1, c2, hl2, lc, al]
    · have c1 : ¬ ((ps.length : Int) < 1) := by omega
      have c2 : ((24 : Int) < (ps.length : Int)) := by omega
      rw [if_neg (fun h => h2 h.2.1)]
      simp -implicitDefEqProofs [d_check_row, b_check_row, startS, c1, c2]
  · have c1 : ((ps.length : Int) < 1) := by omega
    rw [if_neg (fun h => h1 h.1)]
    simp -implicitDefEqProofs [d_check_row, b_check_row, startS, c1]
theorem map_const {α : Type} (xs : List α) (q : Rat) : (xs.map fun _ => qd q) = (List.replicate xs.length q).map qd := by
  induction xs with
  | nil => rfl
  | cons x r ih => simp only [List.map_cons, List.length_cons, List.replicate_succ, ih]
def PZeroRow (g : List D → M R) : Prop := ∀ w : Int, g [.int w] = if 1 ≤ w ∧ w ≤ 24 then .ok (.val (rowD (List.replicate w.toNat 0))) else .ex 1
theorem ok_zero_row (h10 : Has G 10 POfI) : PZeroRow (d_zero_row.fn.run G sub fuel) := by
  obtain ⟨k, i10, j10⟩ := h10
  intro w
  rw [d_run rfl rfl]
  have e : k [.int 0] = .ok (.val (qd 0)) := j10 0
  have lc : ∀ s, lcE G sub [1] (.nm 1) none (.call 10 [.k (.int 0)]) [.val (.int w), s] [] (rngL 0 w) = .ok ((List.replicate w.toNat 0).map qd) := by
    intro s
    have := map_const (List.range w.toNat) 0
    rw [List.length_range] at this
    rw [← this, rngL_map]
    refine lcE_map _ fun p hp => ?_
    simp [lcF, wipe, i10, e]
  by_cases h1 : 1 ≤ w
  · by_cases h2 : w ≤ 24
    · have c1 : ¬ (w < 1) := by omega
      have c2 : ¬ (24 < w) := by omega
      have hsm : small w = true := by unfold small; simp; omega
      have hlr : (rngL 0 w).length ≤ 16777216 := by rw [rngL_len]; omega
      rw [if_pos ⟨h1, h2⟩]
      generalize List.replicate w.toNat (0 : Rat) = zr at *
      simp -implicitDefEqProofs [-blt_tuple_lst, d_zero_row, b_zero_row, startS, c1, c2, hsm, hlr, lc]
    · have c1 : ¬ (w < 1) := by omega
      have c2 : (24 < w) := by omega
      rw [if_neg (fun h => h2 h.2)]
      simp -implicitDefEqProofs [d_zero_row, b_zero_row, startS, c1, c2]
  · have c1 : (w < 1) := by omega
    rw [if_neg (fun h => h1 h.1)]
    simp -implicitDefEqProofs [d_zero_row, b_zero_row, startS, c1]
/-- the row with 1 in one place -/
def unitQ (w i : Nat) : List Rat := (List.range w).map fun k => if k = i then 1 else 0
theorem unitQ_eq (w i : Nat) (h : i < w) : (List.replicate w (0 : Rat)).take i ++ 1 :: (List.replicate w (0 : Rat)).drop (i + 1) = unitQ w i := by
  refine List.ext_getElem (by simp [unitQ]; omega) fun k h1 h2 => ?_
  simp only [unitQ, List.getElem_map, List.getElem_range]
  by_cases hk : k < i
  · rw [List.getElem_append_left (by simp; omega)]
    simp; omega
  · rw [List.getElem_append_right (by simp; omega)]
    by_cases hk2 : k = i
    · subst hk2; simp [Nat.min_eq_left (Nat.le_of_lt h)]
    · have : k - (List.take i (List.replicate w (0 : Rat))).length = (k - i - 1) + 1 := by simp; omega
      simp only [this, List.getElem_cons_succ]
      simp; omega
def PUnitRow (g : List D → M R) : Prop := ∀ w i : Int, g [.int w, .int i] = if (1 ≤ w ∧ w ≤ 24) ∧ 0 ≤ i ∧ i < w then .ok (.val (rowD (unitQ w.toNat i.toNat))) else .ex 1
theorem ok_unit_row (h29 : Has G 29 PZeroRow) (h10 : Has G 10 POfI) : PUnitRow (d_unit_row.fn.run G sub fuel) := by
  obtain ⟨k, i29, j29⟩ := h29
  obtain ⟨k', i10, j10⟩ := h10
  intro w i
  rw [d_run rfl rfl]
  have e : k' [.int 1] = .ok (.val (qd 1)) := j10 1
  have z := j29 w
  by_cases hw : 1 ≤ w ∧ w ≤ 24
  · rw [if_pos hw] at z
    by_cases h0 : 0 ≤ i
    · by_cases h1 : i < w
      · rw [if_pos ⟨hw, h0, h1⟩]
        have c1 : ¬ i < 0 := by omega
        have c2 : ¬ w ≤ i := by omega
        have u := unitQ_eq w.toNat i.toNat (by omega)
        have s1 : slD (rowD (List.replicate w.toNat 0)) none (some i) = .ok (.val (.tup (((List.replicate w.toNat (0 : Rat)).take i.toNat).map qd))) := by
          unfold rowD; rw [sl_tup, cut_take _ _ h0 (by simp; omega), List.map_take]
        have s2 : slD (rowD (List.replicate w.toNat 0)) (some (i + 1)) none = .ok (.val (.tup (((List.replicate w.toNat (0 : Rat)).drop (i.toNat + 1)).map qd))) := by
          unfold rowD; rw [sl_tup, cut_drop _ _ (by omega) (by simp; omega), List.map_drop, show (i + 1).toNat = i.toNat + 1 by omega]
        have a1 := opD_addT (((List.replicate w.toNat (0 : Rat)).take i.toNat).map qd) [qd 1] (by simp; omega)
        have a2 := opD_addT ((((List.replicate w.toNat (0 : Rat)).take i.toNat).map qd) ++ [qd 1]) (((List.replicate w.toNat (0 : Rat)).drop (i.toNat + 1)).map qd) (by simp; omega)
        have fin : (((List.replicate w.toNat (0 : Rat)).take i.toNat).map qd) ++ [qd 1] ++ (((List.replicate w.toNat (0 : Rat)).drop (i.toNat + 1)).map qd) = (unitQ w.toNat i.toNat).map qd := by
          rw [← u]; simp
        rw [fin] at a2
        generalize hP : ((List.replicate w.toNat (0 : Rat)).take i.toNat).map qd = P at *
        generalize hQ : ((List.replicate w.toNat (0 : Rat)).drop (i.toNat + 1)).map qd = Q at *
        generalize List.replicate w.toNat (0 : Rat) = zr at *
        generalize hU : unitQ w.toNat i.toNat = U at *
        simp only [d_unit_row, b_unit_row, startS]
        simp [i29, z, i10, e, c1, c2, s1, s2, a1, a2]
        rfl
      · rw [if_neg (fun h => h1 h.2.2)]
        have c1 : ¬ i < 0 := by omega
        have c2 : w ≤ i := by omega
        generalize List.replicate w.toNat (0 : Rat) = zr at *
        simp -implicitDefEqProofs [d_unit_row, b_unit_row, startS, i29, z, c1, c2]
    · rw [if_neg (fun h => h0 h.2.1)]
      have c1 : i < 0 := by omega
      generalize List.replicate w.toNat (0 : Rat) = zr at *
      simp -implicitDefEqProofs [d_unit_row, b_unit_row, startS, i29, z, c1]
  · rw [if_neg hw] at z
    rw [if_neg (fun h => hw h.1)]
    simp -implicitDefEqProofs [d_unit_row, b_unit_row, startS, i29, z]
def PRowOfInts (g : List D → M R) : Prop := ∀ is : List Int, is.length < 1000 → g [.lst (is.map .int)] = if 1 ≤ is.length ∧ is.length ≤ 24 then .ok (.val (rowD (is.map fun i : Int => (i : Rat)))) else .ex 1
theorem ok_row_of_ints (h10 : Has G 10 POfI) : PRowOfInts (d_row_of_ints.fn.run G sub fuel) := by
  obtain ⟨k, i10, j10⟩ := h10
  intro is hl
  rw [d_run rfl rfl]
  have lc : ∀ s, lcE G sub [1] (.nm 1) none (.call 10 [.var 1]) [.val (.lst (is.map .int)), s] [] (is.map .int) = .ok ((is.map fun i : Int => (i : Rat)).map qd) := by
    intro s
    rw [List.map_map]
    refine lcE_map _ fun i hi => ?_
    have e := j10 i
    rw [← qd_int] at e
    simp [lcF, wipe, i10, e]
  by_cases h1 : 1 ≤ is.length
  · by_cases h2 : is.length ≤ 24
    · have c1 : ¬ ((is.length : Int) < 1) := by omega
      have c2 : ¬ ((24 : Int) < is.length) := by omega
      have hl2 : is.length ≤ 16777216 := by omega
      rw [if_pos ⟨h1, h2⟩]
      generalize is.map (fun i : Int => (i : Rat)) = zr at *
      simp -implicitDefEqProofs [-blt_tuple_lst, d_row_of_ints, b_row_of_ints, startS, c1, c2, hl2, lc]
    · have c1 : ¬ ((is.length : Int) < 1) := by omega
      have c2 : ((24 : Int) < is.length) := by omega
      rw [if_neg (fun h => h2 h.2)]
      simp -implicitDefEqProofs [d_row_of_ints, b_row_of_ints, startS, c1, c2]
  · have c1 : ((is.length : Int) < 1) := by omega
    rw [if_neg (fun h => h1 h.1)]
    simp -implicitDefEqProofs [d_row_of_ints, b_row_of_ints, startS, c1]
end
section
variable {G : Env} {sub : Sub} {fuel : Nat}
theorem ok_common8 (hf : 16001 ≤ fuel) : PGcd 8000 (d_common.fn.run G sub fuel) := ok_common (by omega)
theorem ok_ratio8 (h1 : Has G 1 (PGcd 8000)) : PRatio 8000 (d_ratio.fn.run G sub fuel) := ok_ratio (by omega) h1
theorem ok_isr8 (h1 : Has G 1 (PGcd 8000)) : PIsR 8000 (d_is_ratio.fn.run G sub fuel) := ok_isr h1
abbrev PP900 (g : List D → M R) : Prop := ∀ a b, QS a 900 → QS b 900 → g [qd a, qd b] = .ok (.val (qd (a + b)))
abbrev PT900 (g : List D → M R) : Prop := ∀ a b, QS a 900 → QS b 900 → g [qd a, qd b] = .ok (.val (qd (a * b)))
theorem ok_lplus9 (h14 : Has G 14 PLRatio2) : PP900 (d__law_plus.fn.run G sub fuel) := ok_lplus2 h14
theorem ok_ltimes9 (h14 : Has G 14 PLRatio2) : PT900 (d__law_times.fn.run G sub fuel) := ok_ltimes2 h14
end
end EV

set_option linter.all false
set_option autoImplicit false
set_option maxRecDepth 20000
namespace EV
open PySem (Str)
/-! EwS: more rules for simp. -/
def isNon : D → Bool
  | .non => true
  | _ => false
@[simp] theorem isNon_non : isNon .non = true := rfl
@[simp] theorem isNon_int (i : Int) : isNon (.int i) = false := rfl
@[simp] theorem isNon_bl (i : Bool) : isNon (.bl i) = false := rfl
@[simp] theorem isNon_str (i : Str) : isNon (.str i) = false := rfl
@[simp] theorem isNon_tup (i : List D) : isNon (.tup i) = false := rfl
@[simp] theorem isNon_lst (i : List D) : isNon (.lst i) = false := rfl
@[simp] theorem isNon_qd (a : Rat) : isNon (qd a) = false := rfl
@[simp] theorem cmp_is_non (d : D) : cmpD .Is d .non = .ok (.val (.bl (isNon d))) := by cases d <;> rfl
@[simp] theorem cmp_isnot_non (d : D) : cmpD .IsNot d .non = .ok (.val (.bl (!isNon d))) := by cases d <;> rfl
theorem atI_nat {xs : List D} {k : Nat} {x : D} (h : xs[k]? = some x) : atI xs (k : Int) = some x := by
  have hl := (List.getElem?_eq_some_iff.mp h).1
  unfold atI ixN
  rw [if_pos (by omega), if_pos (by omega), Int.toNat_natCast]
  exact h
@[simp] theorem atI_c2 (a b c : D) (r : List D) : atI (a :: b :: c :: r) 2 = some c := atI_nat (k := 2) rfl
@[simp] theorem atI_c3 (a b c d : D) (r : List D) : atI (a :: b :: c :: d :: r) 3 = some d := atI_nat (k := 3) rfl
@[simp] theorem atI_c4 (a b c d e : D) (r : List D) : atI (a :: b :: c :: d :: e :: r) 4 = some e := atI_nat (k := 4) rfl
@[simp] theorem atI_c5 (a b c d e f : D) (r : List D) : atI (a :: b :: c :: d :: e :: f :: r) 5 = some f := atI_nat (k := 5) rfl
@[simp] theorem atI_c6 (a b c d e f g : D) (r : List D) : atI (a :: b :: c :: d :: e :: f :: g :: r) 6 = some g := atI_nat (k := 6) rfl
@[simp] theorem atI_c7 (a b c d e f g h : D) (r : List D) : atI (a :: b :: c :: d :: e :: f :: g :: h :: r) 7 = some h := atI_nat (k := 7) rfl
theorem Has.imp {G : Env} {i : Nat} {P Q : (List D → M R) → Prop} (h : Has G i P) (f : ∀ g, P g → Q g) : Has G i Q := by
  obtain ⟨g, g1, g2⟩ := h
  exact ⟨g, g1, f g g2⟩
/-- a def's end, as a function of the store, keeps P -/
def FnP (P : M R → Prop) (f : F) : Prop := P f.fin
@[simp] theorem fnp_nx (P : M R → Prop) (s : List S) : FnP P (.nx s) = P (.ok (.val .non)) := rfl
@[simp] theorem fnp_val (P : M R → Prop) (d : D) : FnP P (.rt (.val d)) = P (.ok (.val d)) := rfl
@[simp] theorem fnp_own (P : M R → Prop) (d : List D) : FnP P (.rt (.own d)) = P (.ok (.own d)) := rfl
@[simp] theorem fnp_ex (P : M R → Prop) (c : Nat) (s : List S) : FnP P (.ex c s) = P (.ex c) := rfl
@[simp] theorem seq_seq (f : F) (k l : List S → F) : (f.seq k).seq l = f.seq fun s => (k s).seq l := by
  funext st; unfold F.seq; cases f st <;> rfl
theorem d_fnp {G : Env} {sub : Sub} {fuel : Nat} {d : Def} {ds : List D} {P : M R → Prop} (h : ds.length = d.ps.length) (hs : d.sc = false) (q : FnP P (evTs G sub fuel d.body (startS d.N.length ds))) : P (d.fn.run G sub fuel ds) := by
  rw [d_run h hs]; exact q
/-- a for whose body neither ends nor touches the store -/
theorem for_fn {G : Env} {sub : Sub} {fuel : Nat} {A : Type} {enc : A → D} {tg : Tg} {b : List T} {xs : List A} {ss : List S} {k : List S → F} {Q : F → Prop} (P : Nat → List S → Prop) (h0 : P 0 ss)
    (hs : ∀ i x s, xs[i]? = some x → P i s → ∃ s', (asg tg (enc x) s).f s (evTs G sub fuel b) = .nx s' ∧ P (i + 1) s') (hk : ∀ s, P xs.length s → Q (k s)) : Q ((loopF G sub fuel tg b [] (xs.map enc) ss).seq k) := by
  have main : ∃ s', loopF G sub fuel tg b [] (xs.map enc) ss = .nx s' ∧ P xs.length s' := by
    unfold loopF
    suffices H : ∀ (r : List A) (i : Nat) (s : List S), xs.drop i = r → i ≤ xs.length → P i s → ∃ s', forL [] (asg tg) (evTs G sub fuel b) (r.map enc) s = .nx s' ∧ P xs.length s' from H xs 0 ss rfl (Nat.zero_le _) h0
    intro r
    induction r with
    | nil =>
      intro i s hr hi hp
      have : xs.length ≤ i := List.drop_eq_nil_iff.mp hr
      have : i = xs.length := by omega
      subst this
      exact ⟨s, forL_nil0, hp⟩
    | cons d r ih =>
      intro i s hr hi hp
      have hl : i < xs.length := by
        refine Nat.lt_of_not_le fun h => ?_
        rw [List.drop_eq_nil_of_le h] at hr; cases hr
      have hd : xs[i]? = some d := by
        have := List.getElem?_drop (xs := xs) (i := i) (j := 0)
        rw [hr] at this
        simpa using this.symm
      obtain ⟨s', h1, h2⟩ := hs i d s hd hp
      have hr' : xs.drop (i + 1) = r := by
        have := congrArg List.tail hr
        rw [List.tail_drop] at this
        exact this
      obtain ⟨s'', h4, h5⟩ := ih (i + 1) s' hr' (by omega) h2
      refine ⟨s'', ?_, h5⟩
      rw [List.map_cons, forL_cons0]
      funext st
      have h6 := congrFun h1 st
      rw [f_app] at h6 ⊢
      cases ea : asg tg (enc d) s st with
      | bad => rw [ea] at h6; cases h6
      | ex c st1 => rw [ea] at h6; cases h6
      | ok s1 st1 =>
        rw [ea] at h6
        rw [fo_ok] at h6 ⊢
        unfold F.loop
        rw [h6]
        exact congrFun h4 st
  obtain ⟨s', h1, h2⟩ := main
  rw [h1, seq_nx]
  exact hk s' h2
end EV

set_option autoImplicit false
namespace EV
def PTrueS (g : List D → M R) : Prop := ∀ ns : List Int, ns.length ≤ 63 → ∃ st, g [.scr (ns.map .int)] [] = .ok (.val (.bl true)) st
end EV

set_option linter.all false
set_option autoImplicit false
namespace EV
open PySem (Str)
/-! EwU: words of the text. -/
@[simp] theorem sq_sq (o : FO) (k l : List S → F) : (o.sq k).sq l = o.sq fun s => (k s).seq l := by
  unfold FO.sq
  cases o with
  | nx s st => exact (seq_app (k s) l st).symm
  | _ => rfl
theorem ofS_ok (a : String) : strOk (Str.ofString a) = true := by
  unfold strOk
  have h := TL.tl_ofString a
  have e : (Str.ofString a).cps = ((a.toList.map Char.toNat)).toArray := by rw [← h]
  rw [e, List.all_toArray, List.all_map, List.all_eq_true]
  intro c _
  have := c.valid
  show decide (c.val.toNat < 0x110000) = true
  rcases this with h1 | ⟨_, h1⟩
  · exact decide_eq_true (by show c.val.toNat < _; omega)
  · exact decide_eq_true h1
theorem wf_ofS (a : String) (n : Nat) : wf n (.str (Str.ofString a)) = true := by
  cases n <;> simp only [wf, ofS_ok]
@[simp] theorem deep_ofS (a b : String) (t : Bool) : deepM (.str (Str.ofString a)) (.str (Str.ofString b)) t = .ok (.val (.bl t)) := by
  unfold deepM; rw [wf_ofS, wf_ofS]; rfl
theorem ofS_inj (a b : String) : Str.ofString a = Str.ofString b ↔ a = b := by
  constructor
  · intro h
    have h1 := congrArg TL.tl h
    rw [TL.tl_ofString, TL.tl_ofString] at h1
    have h2 : a.toList = b.toList := by
      refine List.map_inj_right (f := Char.toNat) ?_ |>.mp h1
      intro x y hxy
      exact Char.ext (UInt32.toNat_inj.mp hxy)
    exact String.toList_inj.mp h2
  · rintro rfl; rfl
@[simp] theorem eqD_ofS (a b : String) : eqD (.str (Str.ofString a)) (.str (Str.ofString b)) = decide (a = b) := by
  rw [eqD]
  have : (Str.ofString a == Str.ofString b) = decide (Str.ofString a = Str.ofString b) := Bool.beq_eq_decide_eq _ _
  rw [this, decide_eq_decide]; exact ofS_inj a b
end EV

set_option linter.all false
set_option autoImplicit false
set_option maxRecDepth 20000
namespace EV
open PySem (Str)
/-! EwY0: lots, deeds, and the walk through a yard, in plain Lean. -/
structure Ys where
  lots : List (Option Int × List Int)
  there : List Int
  deriving DecidableEq
def Ys.make (s : Ys) (o : Option Int) (ps : List Int) : Ys := ⟨s.lots ++ [(o, ps)], s.there ++ [(s.lots.length : Int)]⟩
def Ys.use (s : Ys) (l : Int) : Option Ys := if l ∈ s.there then some ⟨s.lots, s.there.erase l⟩ else none
def Ys.useAll (s : Ys) : List Int → Option Ys
  | [] => some s
  | l :: ls => (s.use l).bind fun t => t.useAll ls
def Ys.makes (s : Ys) (o : Option Int) (ps : List Int) : Nat → Ys
  | 0 => s
  | n + 1 => (s.makes o ps n).make o ps
inductive Dd where
  | bring (x : Int) | pour (ls : List Int) | part (l m : Int) | junk (n : Nat)
  deriving DecidableEq
def junkD : Nat → List D
  | 0 => [.str "take", .int 0]
  | 1 => [.str "bring"]
  | 2 => [.str "bring", .int 0, .int 0]
  | 3 => [.str "part", .int 0]
  | _ => []
def ddD : Dd → D
  | .bring x => .tup [.str "bring", .int x]
  | .pour ls => .tup [.str "pour", .tup (ls.map .int)]
  | .part l m => .tup [.str "part", .int l, .int m]
  | .junk n => .tup (junkD n)
/-- a tuple of not too many lots -/
def Dd.ok : Dd → Prop
  | .pour ls => ls.length ≤ 100000
  | _ => True
def Ys.deed (h : Int) (s : Ys) : Dd → Option Ys
  | .bring x => if x < 0 ∨ h ≤ x then none else some (s.make (some x) [])
  | .pour ls => if ls.length < 2 then none else (s.useAll ls).map fun t => t.make none ls
  | .part l m => if m < 2 ∨ 3 < m then none else (s.use l).map fun t => t.makes none [l] m.toNat
  | .junk _ => none
theorem deed_bring (h : Int) (s : Ys) (x : Int) : s.deed h (.bring x) = if x < 0 ∨ h ≤ x then none else some (s.make (some x) []) := rfl
theorem deed_pour (h : Int) (s : Ys) (ls : List Int) : s.deed h (.pour ls) = if ls.length < 2 then none else (s.useAll ls).map fun t => t.make none ls := rfl
theorem deed_part (h : Int) (s : Ys) (l m : Int) : s.deed h (.part l m) = if m < 2 ∨ 3 < m then none else (s.use l).map fun t => t.makes none [l] m.toNat := rfl
theorem deed_junk (h : Int) (s : Ys) (n : Nat) : s.deed h (.junk n) = none := rfl
def Ys.step (h : Int) (s : Ys) (d : Dd) : Option Ys := (s.deed h d).bind fun t => if 8 < t.lots.length ∨ 24 < t.lots.length * h then none else some t
def Ys.go (h : Int) (s : Ys) : List Dd → Option Ys
  | [] => some s
  | d :: ds => (s.step h d).bind fun t => t.go h ds
def Ys.e : Ys := ⟨[], []⟩
def tally (h : Int) (ds : List Dd) : Option Ys := if h < 1 ∨ 4 < h then none else Ys.e.go h ds
def oD : Option Int → D
  | none => .non
  | some x => .int x
def lotD (p : Option Int × List Int) : D := .tup [oD p.1, .tup (p.2.map .int)]
def yardD (h : Int) (ds : List Dd) : D := .tup [.int h, .tup (ds.map ddD)]
/-! sizes -/
theorem use_len {s t : Ys} {l : Int} (h : s.use l = some t) : t.lots = s.lots ∧ t.there.length + 1 = s.there.length := by
  unfold Ys.use at h
  split at h
  · rename_i hm
    cases h
    refine ⟨rfl, ?_⟩
    have := List.length_erase_of_mem hm
    have := List.length_pos_of_mem hm
    dsimp only
    omega
  · cases h
theorem useAll_len : ∀ {ls : List Int} {s t : Ys}, s.useAll ls = some t → t.lots = s.lots ∧ t.there.length + ls.length = s.there.length
  | [], s, t, h => by cases h; exact ⟨rfl, rfl⟩
  | l :: ls, s, t, h => by
    unfold Ys.useAll at h
    cases e : s.use l with
    | none => rw [e] at h; cases h
    | some u =>
      rw [e] at h
      obtain ⟨h1, h2⟩ := useAll_len h
      obtain ⟨h3, h4⟩ := use_len e
      exact ⟨h1.trans h3, by rw [List.length_cons]; omega⟩
theorem makes_len (s : Ys) (o : Option Int) (ps : List Int) : ∀ n, (s.makes o ps n).lots.length = s.lots.length + n ∧ (s.makes o ps n).there.length = s.there.length + n
  | 0 => ⟨rfl, rfl⟩
  | n + 1 => by
    have := makes_len s o ps n
    unfold Ys.makes Ys.make
    simp; omega
/-- the present ones are not more than the lots -/
def Ys.ok (s : Ys) : Prop := s.there.length ≤ s.lots.length
theorem deed_ok {s t : Ys} {h : Int} {d : Dd} (e : s.deed h d = some t) (hs : s.ok) : t.ok ∧ t.lots.length ≤ s.lots.length + 3 := by
  unfold Ys.ok at *
  cases d with
  | bring x =>
    rw [deed_bring] at e
    split at e
    · cases e
    · cases e; unfold Ys.make; simp; omega
  | pour ls =>
    rw [deed_pour] at e
    split at e
    · cases e
    · cases c : s.useAll ls with
      | none => rw [c] at e; cases e
      | some u =>
        rw [c] at e; cases e
        have := useAll_len c
        unfold Ys.make; simp [this.1]; omega
  | part l m =>
    rw [deed_part] at e
    split at e
    · cases e
    · rename_i hm
      cases c : s.use l with
      | none => rw [c] at e; cases e
      | some u =>
        rw [c] at e; cases e
        have h1 := use_len c
        have h2 := makes_len u none [l] m.toNat
        rw [h1.1] at h2
        simp only [not_or, Int.not_lt] at hm
        show (u.makes none [l] m.toNat).there.length ≤ (u.makes none [l] m.toNat).lots.length ∧ (u.makes none [l] m.toNat).lots.length ≤ s.lots.length + 3
        constructor <;> omega
  | junk n => cases e
theorem step_ok {s t : Ys} {h : Int} {d : Dd} (e : s.step h d = some t) (hs : s.ok) : t.ok ∧ t.lots.length ≤ 8 := by
  unfold Ys.step at e
  cases c : s.deed h d with
  | none => rw [c] at e; cases e
  | some u =>
    rw [c] at e
    have e' : (if 8 < u.lots.length ∨ 24 < u.lots.length * h then none else some u) = some t := e
    split at e'
    · cases e'
    · rename_i hh
      cases e'
      exact ⟨(deed_ok c hs).1, by omega⟩
theorem go_ok : ∀ {ds : List Dd} {s t : Ys} {h : Int}, s.go h ds = some t → s.ok → s.lots.length ≤ 8 → t.ok ∧ t.lots.length ≤ 8
  | [], s, t, h, e, hs, hl => by cases e; exact ⟨hs, hl⟩
  | d :: ds, s, t, h, e, hs, hl => by
    unfold Ys.go at e
    cases c : s.step h d with
    | none => rw [c] at e; cases e
    | some u =>
      rw [c] at e
      have := step_ok c hs
      exact go_ok (s := u) e this.1 this.2
theorem go_cons (h : Int) (s : Ys) (d : Dd) (ds : List Dd) : s.go h (d :: ds) = (s.step h d).bind fun t => t.go h ds := rfl
theorem go_app (h : Int) : ∀ (ds es : List Dd) (s : Ys), s.go h (ds ++ es) = (s.go h ds).bind fun t => t.go h es
  | [], es, s => rfl
  | d :: ds, es, s => by
    rw [List.cons_append, go_cons, go_cons]
    cases c : s.step h d with
    | none => rfl
    | some u => exact go_app h ds es u
theorem tally_snoc (h : Int) (ds : List Dd) (d : Dd) : tally h (ds ++ [d]) = (tally h ds).bind fun t => t.step h d := by
  unfold tally
  split
  · rfl
  · rw [go_app]
    cases Ys.e.go h ds with
    | none => rfl
    | some t =>
      show Ys.go h t [d] = t.step h d
      unfold Ys.go
      cases t.step h d with
      | none => rfl
      | some u => rfl
end EV

set_option linter.all false
set_option autoImplicit false
set_option maxRecDepth 100000
namespace EV
def b__law_row_v4 : List T := [
  .asg (.nm 1) (.lst []),
  .forr (.nm 2) (.rng [.blt .len [.var 0]]) [.asg (.nm 3) (.blt .abs [.blt .int [.ix (.var 0) (.var 2)]]), .iff (.cmp .GtE (.var 3) (.op .Pow (.k (.int 10)) (.k (.int 18)))) [.forr (.nm 4) (.rng [.k (.int 40)]) [.iff (.cmp .Gt (.var 3) (.k (.int 0))) [.app 1 (.op .Mod (.blt .int [.var 3]) (.k (.int 1009))), .asg (.nm 3) (.op .FloorDiv (.var 3) (.k (.int 1009)))] []]] [.asg (.nm 5) (.op .Mod (.blt .int [.op .Add (.op .Add (.op .Mult (.var 3) (.k (.int 48271))) (.op .Mult (.var 2) (.k (.int 69621)))) (.k (.int 12345))]) (.k (.int 2147483647))), .forr (.nm 4) (.rng [.k (.int 6)]) [.asg (.nm 5) (.op .Mod (.blt .int [.op .Add (.op .Add (.op .Mult (.var 5) (.k (.int 16807))) (.op .Mult (.k (.int 11)) (.var 4))) (.k (.int 1))]) (.k (.int 2147483647))), .app 1 (.op .Mod (.blt .int [.op .FloorDiv (.var 5) (.k (.int 7))]) (.k (.int 1009)))]]],
  .ret (.var 1)]
def d__law_row_v4 : Def := ⟨37, "_law_row", ["_law_script"], ["_law_script", "_law_row_here", "_law_k", "_law_cell", "_law_turn", "_law_mixed"], b__law_row_v4, false, none⟩
def b__law_at : List T := [
  .iff (.chain .LtE .Lt (.k (.int 0)) (.var 1) (.blt .len [.var 0])) [.ret (.ix (.var 0) (.var 1))] [],
  .ret (.k (.int 0))]
def d__law_at : Def := ⟨149, "_law_at", ["_law_row_here", "_law_at_here"], ["_law_row_here", "_law_at_here"], b__law_at, false, none⟩
def b__law_yard : List T := [
  .asg (.nm 3) (.op .Add (.k (.int 1)) (.op .Mod (.blt .int [.call 149 [.var 0, .var 1]]) (.k (.int 4)))),
  .asg (.nm 4) (.lst []),
  .asg (.nm 5) (.box (.lst [])),
  .asg (.nm 6) (.k (.int 0)),
  .forr (.nm 7) (.rng [.op .Mod (.blt .int [.call 149 [.var 0, .op .Add (.var 1) (.k (.int 1))]]) (.op .Add (.var 2) (.k (.int 1)))]) [.asg (.nm 8) (.blt .int [.call 149 [.var 0, .op .Add (.op .Add (.var 1) (.k (.int 2))) (.op .Mult (.k (.int 2)) (.var 7))]]), .asg (.nm 9) (.blt .int [.call 149 [.var 0, .op .Add (.op .Add (.var 1) (.k (.int 3))) (.op .Mult (.k (.int 2)) (.var 7))]]), .asg (.nm 10) (.op .Mod (.var 8) (.k (.int 5))), .asg (.nm 11) (.k (.int 1)), .iff (.and (.cmp .Eq (.var 10) (.k (.int 3))) (.one (.cmp .Gt (.bltr .len [.var 5]) (.k (.int 0))))) [.asg (.nm 11) (.op .Add (.k (.int 2)) (.op .Mod (.op .FloorDiv (.var 8) (.k (.int 5))) (.k (.int 2))))] [], .iff (.and (.cmp .LtE (.op .Add (.var 6) (.var 11)) (.k (.int 8))) (.one (.cmp .LtE (.op .Mult (.op .Add (.var 6) (.var 11)) (.var 3)) (.k (.int 24))))) [.iff (.and (.cmp .Eq (.var 10) (.k (.int 3))) (.one (.cmp .Gt (.bltr .len [.var 5]) (.k (.int 0))))) [.asg (.nm 12) (.popr (.var 5) (some (.op .Mod (.var 9) (.bltr .len [.var 5])))), .frz 11, .frz 12, .app 4 (.tup [.k (.str "part"), .var 12, .var 11]), .forr (.nm 13) (.rng [.var 11]) [.rapp (.var 5) (.op .Add (.var 6) (.var 13))]] [.iff (.and (.cmp .Eq (.var 10) (.k (.int 4))) (.one (.cmp .Gt (.bltr .len [.var 5]) (.k (.int 1))))) [.asg (.nm 14) (.op .Add (.k (.int 2)) (.op .Mod (.op .FloorDiv (.var 8) (.k (.int 5))) (.op .Sub (.bltr .len [.var 5]) (.k (.int 1))))), .asg (.nm 15) (.lst []), .forr (.nm 13) (.rng [.var 14]) [.app 15 (.popr (.var 5) (some (.op .Mod (.op .FloorDiv (.var 9) (.op .Add (.var 13) (.k (.int 1)))) (.bltr .len [.var 5]))))], .app 4 (.tup [.k (.str "pour"), .blt .tuple [.var 15]]), .frz 6, .rapp (.var 5) (.var 6)] [.asg (.nm 11) (.k (.int 1)), .app 4 (.tup [.k (.str "bring"), .op .Mod (.var 9) (.var 3)]), .frz 6, .rapp (.var 5) (.var 6)]], .asg (.nm 6) (.op .Add (.var 6) (.var 11))] []],
  .frz 3,
  .ret (.tup [.var 3, .blt .tuple [.var 4]])]
def d__law_yard : Def := ⟨152, "_law_yard", ["_law_row_here", "_law_at_here", "_law_most"], ["_law_row_here", "_law_at_here", "_law_most", "_law_households", "_law_deeds", "_law_there", "_law_count", "_law_k", "_law_number", "_law_x", "_law_kind", "_law_made", "_law_lot", "_law_j", "_law_many", "_law_lots_here"], b__law_yard, true, none⟩
def b__law_lots : List T := [
  .asg (.nm 1) (.lst []),
  .asg (.nm 2) (.lst []),
  .forr (.nm 3) (.seq (.ix (.var 0) (.k (.int 1)))) [.iff (.cmp .Eq (.ix (.var 3) (.k (.int 0))) (.k (.str "bring"))) [.app 2 (.blt .len [.var 1]), .app 1 (.tup [.ix (.var 3) (.k (.int 1)), .tup []])] [.iff (.cmp .Eq (.ix (.var 3) (.k (.int 0))) (.k (.str "pour"))) [.asg (.nm 2) (.lc [5] (.nm 5) (.seq (.var 2)) (some (.cmp .NotIn (.var 5) (.ix (.var 3) (.k (.int 1))))) (.var 5)), .app 2 (.blt .len [.var 1]), .app 1 (.tup [.k (.non), .blt .tuple [.ix (.var 3) (.k (.int 1))]])] [.asg (.nm 2) (.lc [5] (.nm 5) (.seq (.var 2)) (some (.cmp .NotEq (.var 5) (.ix (.var 3) (.k (.int 1))))) (.var 5)), .forr (.nm 4) (.rng [.ix (.var 3) (.k (.int 2))]) [.app 2 (.blt .len [.var 1]), .app 1 (.tup [.k (.non), .tup [.ix (.var 3) (.k (.int 1))]])]]]],
  .frz 1,
  .ret (.tup [.var 1, .blt .srt [.var 2]])]
def d__law_lots : Def := ⟨153, "_law_lots", ["_law_yard_here"], ["_law_yard_here", "_law_lots_here", "_law_there", "_law_deed", "_law_k", "_law_lot"], b__law_lots, false, none⟩
def b_Tally___init__ : List T := [
  .fset 0 0 (.var 0) (.var 1),
  .fset 0 1 (.var 0) (.box (.lst [])),
  .fset 0 2 (.var 0) (.box (.lst []))]
def d_Tally___init__ : Def := ⟨282, "__init__", ["self", "households"], ["self", "households"], b_Tally___init__, false, some (0, "Tally.__init__")⟩
def b_Tally_make : List T := [
  .rapp (.fld 0 2 (.var 0)) (.bltr .len [.fld 0 1 (.var 0)]),
  .rapp (.fld 0 1 (.var 0)) (.tup [.var 1, .var 2])]
def d_Tally_make : Def := ⟨280, "make", ["self", "household", "parents"], ["self", "household", "parents"], b_Tally_make, false, some (0, "Tally.make")⟩
def b_Tally_use : List T := [
  .iff (.cmpr .NotIn (.var 1) (.fld 0 2 (.var 0))) [.rais 1] [],
  .rrem (.fld 0 2 (.var 0)) (.var 1)]
def d_Tally_use : Def := ⟨281, "use", ["self", "lot"], ["self", "lot"], b_Tally_use, false, some (0, "Tally.use")⟩
def b_Tally_deed : List T := [
  .iff (.and (.cmp .Eq (.blt .len [.var 1]) (.k (.int 2))) (.one (.cmp .Eq (.ix (.var 1) (.k (.int 0))) (.k (.str "bring"))))) [.iff (.or (.cmp .Lt (.ix (.var 1) (.k (.int 1))) (.k (.int 0))) (.one (.cmp .GtE (.ix (.var 1) (.k (.int 1))) (.fld 0 0 (.var 0))))) [.rais 1] [], .exp (.mth 0 280 (.var 0) [.ix (.var 1) (.k (.int 1)), .tup []])] [.iff (.and (.cmp .Eq (.blt .len [.var 1]) (.k (.int 2))) (.one (.cmp .Eq (.ix (.var 1) (.k (.int 0))) (.k (.str "pour"))))) [.iff (.cmp .Lt (.blt .len [.ix (.var 1) (.k (.int 1))]) (.k (.int 2))) [.rais 1] [], .forr (.nm 2) (.seq (.ix (.var 1) (.k (.int 1)))) [.exp (.mth 0 281 (.var 0) [.var 2])], .exp (.mth 0 280 (.var 0) [.k (.non), .blt .tuple [.ix (.var 1) (.k (.int 1))]])] [.iff (.and (.cmp .Eq (.blt .len [.var 1]) (.k (.int 3))) (.one (.cmp .Eq (.ix (.var 1) (.k (.int 0))) (.k (.str "part"))))) [.iff (.or (.cmp .Lt (.ix (.var 1) (.k (.int 2))) (.k (.int 2))) (.one (.cmp .Gt (.ix (.var 1) (.k (.int 2))) (.gl "MAX_PARTS" (.int 3))))) [.rais 1] [], .exp (.mth 0 281 (.var 0) [.ix (.var 1) (.k (.int 1))]), .forr (.nm 3) (.rng [.ix (.var 1) (.k (.int 2))]) [.exp (.mth 0 280 (.var 0) [.k (.non), .tup [.ix (.var 1) (.k (.int 1))]])]] [.rais 1]]]]
def d_Tally_deed : Def := ⟨283, "deed", ["self", "deed"], ["self", "deed", "lot", "_"], b_Tally_deed, false, some (0, "Tally.deed")⟩
def b_tally_of : List T := [
  .asg (.tup [.nm 3, .nm 4]) (.var 0),
  .iff (.or (.cmp .Lt (.var 3) (.k (.int 1))) (.one (.cmp .Gt (.var 3) (.gl "MAX_HOUSEHOLDS" (.int 4))))) [.rais 1] [],
  .asg (.nm 1) (.new 0 282 3 [.var 3]),
  .forr (.nm 2) (.seq (.var 4)) [.exp (.mth 0 283 (.var 1) [.var 2]), .iff (.or (.cmp .Gt (.bltr .len [.fld 0 1 (.var 1)]) (.gl "MAX_LOTS" (.int 8))) (.one (.cmp .Gt (.op .Mult (.bltr .len [.fld 0 1 (.var 1)]) (.var 3)) (.gl "MAX_UNKNOWNS" (.int 24))))) [.rais 1] []],
  .ret (.var 1)]
def d_tally_of : Def := ⟨147, "tally_of", ["yard"], ["yard", "tally", "deed", "households", "deeds"], b_tally_of, false, none⟩
def b_check_yard : List T := [
  .exp (.call 147 [.var 0])]
def d_check_yard : Def := ⟨150, "check_yard", ["yard"], ["yard"], b_check_yard, true, none⟩
def b_lots_of : List T := [
  .ret (.fld 0 1 (.call 147 [.var 0]))]
def d_lots_of : Def := ⟨148, "lots_of", ["yard"], ["yard"], b_lots_of, true, none⟩
def b_present : List T := [
  .ret (.bltr .srt [.fld 0 2 (.call 147 [.var 0])])]
def d_present : Def := ⟨154, "present", ["yard"], ["yard"], b_present, true, none⟩
def b_width_of : List T := [
  .ret (.op .Mult (.blt .len [.call 148 [.var 0]]) (.ix (.var 0) (.k (.int 0))))]
def d_width_of : Def := ⟨158, "width_of", ["yard"], ["yard"], b_width_of, false, none⟩
def b_unknown : List T := [
  .iff (.or (.cmp .Lt (.var 1) (.k (.int 0))) (.or (.cmp .GtE (.var 1) (.blt .len [.call 148 [.var 0]])) (.or (.cmp .Lt (.var 2) (.k (.int 0))) (.one (.cmp .GtE (.var 2) (.ix (.var 0) (.k (.int 0)))))))) [.rais 4] [],
  .ret (.op .Add (.op .Mult (.var 1) (.ix (.var 0) (.k (.int 0)))) (.var 2))]
def d_unknown : Def := ⟨151, "unknown", ["yard", "lot", "household"], ["yard", "lot", "household"], b_unknown, false, none⟩
def b__law_missing : List T := [
  .tr [.exp (.call 151 [.var 0, .var 1, .var 2])] [([4], some 3, [.ret (.and (.isx 3 [0]) (.one (.not (.isx 3 [1]))))])],
  .ret (.k (.bl false))]
def d__law_missing : Def := ⟨163, "_law_missing", ["_law_yard_here", "_law_lot", "_law_household"], ["_law_yard_here", "_law_lot", "_law_household", "why"], b__law_missing, false, none⟩
def b__law_refused_v9 : List T := [
  .tr [.exp (.call 150 [.var 0])] [([1], some 1, [.ret (.and (.isx 1 [0]) (.one (.not (.isx 1 [4]))))])],
  .ret (.k (.bl false))]
def d__law_refused_v9 : Def := ⟨7, "_law_refused", ["_law_yard_here"], ["_law_yard_here", "why"], b__law_refused_v9, false, none⟩
def b_law_k30 : List T := [
  .asg (.nm 1) (.call 37 [.var 0]),
  .frz 1,
  .asg (.nm 2) (.call 152 [.var 1, .k (.int 0), .k (.int 8)]),
  .frz 2,
  .asg (.tup [.nm 8, .nm 9]) (.call 153 [.var 2]),
  .frz 2,
  .iff (.or (.cmp .IsNot (.call 150 [.var 2]) (.k (.non))) (.or (.cmp .NotEq (.call 148 [.var 2]) (.var 8)) (.one (.cmp .NotEq (.call 154 [.var 2]) (.var 9))))) [.ret (.k (.bl false))] [],
  .frz 2,
  .rapp (.box (.call 148 [.var 2])) (.k (.non)),
  .frz 2,
  .rapp (.box (.call 154 [.var 2])) (.k (.int 9)),
  .frz 2,
  .iff (.or (.cmp .NotEq (.call 148 [.var 2]) (.var 8)) (.or (.cmp .NotEq (.call 154 [.var 2]) (.var 9)) (.one (.cmp .NotEq (.call 158 [.var 2]) (.op .Mult (.blt .len [.var 8]) (.ix (.var 2) (.k (.int 0)))))))) [.ret (.k (.bl false))] [],
  .forr (.nm 3) (.rng [.blt .len [.var 8]]) [.forr (.nm 10) (.rng [.ix (.var 2) (.k (.int 0))]) [.frz 2, .iff (.cmp .NotEq (.call 151 [.var 2, .var 3, .var 10]) (.op .Add (.op .Mult (.var 3) (.ix (.var 2) (.k (.int 0)))) (.var 10))) [.ret (.k (.bl false))] []], .frz 2, .iff (.or (.not (.call 163 [.var 2, .var 3, .ix (.var 2) (.k (.int 0))])) (.one (.not (.call 163 [.var 2, .var 3, .neg (.k (.int 1))])))) [.ret (.k (.bl false))] []],
  .frz 2,
  .iff (.or (.not (.call 163 [.var 2, .blt .len [.var 8], .k (.int 0)])) (.one (.not (.call 163 [.var 2, .neg (.k (.int 1)), .k (.int 0)])))) [.ret (.k (.bl false))] [],
  .asg (.nm 4) (.lc [3] (.nm 3) (.rng [.blt .len [.var 8]]) (some (.cmp .NotIn (.var 3) (.var 9))) (.var 3)),
  .asg (.nm 5) (.lst [.tup [.k (.str "bring"), .ix (.var 2) (.k (.int 0))], .tup [.k (.str "bring"), .neg (.k (.int 1))], .tup [.k (.str "pour"), .tup [.k (.int 0)]], .tup [.k (.str "pour"), .tup []], .tup [.k (.str "pour"), .tup [.blt .len [.var 8], .k (.int 0)]], .tup [.k (.str "part"), .blt .len [.var 8], .k (.int 2)]]),
  .asg (.nm 5) (.op .Add (.var 5) (.lst [.tup [.k (.str "part"), .neg (.k (.int 1)), .k (.int 2)], .tup [.k (.str "part"), .k (.int 0), .k (.int 1)], .tup [.k (.str "part"), .k (.int 0), .k (.int 4)], .tup [.k (.str "take"), .k (.int 0)], .tup [.k (.str "bring")], .tup [.k (.str "bring"), .k (.int 0), .k (.int 0)], .tup [.k (.str "part"), .k (.int 0)], .tup []])),
  .iff (.cmp .Gt (.blt .len [.var 9]) (.k (.int 0))) [.asg (.nm 5) (.op .Add (.var 5) (.lst [.tup [.k (.str "pour"), .tup [.ix (.var 9) (.k (.int 0)), .ix (.var 9) (.k (.int 0))]], .tup [.k (.str "part"), .ix (.var 9) (.k (.int 0)), .k (.int 1)], .tup [.k (.str "part"), .ix (.var 9) (.k (.int 0)), .k (.int 4)], .tup [.k (.str "pour"), .tup [.ix (.var 9) (.k (.int 0))]]]))] [],
  .iff (.and (.cmp .Gt (.blt .len [.var 4]) (.k (.int 0))) (.one (.cmp .Gt (.blt .len [.var 9]) (.k (.int 0))))) [.asg (.nm 5) (.op .Add (.var 5) (.lst [.tup [.k (.str "part"), .ix (.var 4) (.k (.int 0)), .k (.int 2)], .tup [.k (.str "pour"), .tup [.ix (.var 9) (.k (.int 0)), .ix (.var 4) (.k (.int 0))]]]))] [],
  .frz 5,
  .forr (.nm 6) (.seq (.var 5)) [.iff (.not (.call 7 [.tup [.ix (.var 2) (.k (.int 0)), .op .Add (.ix (.var 2) (.k (.int 1))) (.tup [.var 6])]])) [.ret (.k (.bl false))] []],
  .asg (.nm 7) (.op .Mult (.lst [.tup [.k (.str "bring"), .k (.int 0)]]) (.k (.int 8))),
  .iff (.or (.cmp .IsNot (.call 150 [.tup [.k (.int 3), .blt .tuple [.var 7]]]) (.k (.non))) (.one (.not (.call 7 [.tup [.k (.int 3), .blt .tuple [.op .Add (.var 7) (.lst [.tup [.k (.str "bring"), .k (.int 0)]])]]])))) [.ret (.k (.bl false))] [],
  .iff (.or (.cmp .IsNot (.call 150 [.tup [.k (.int 4), .blt .tuple [.sl (.var 7) none (some (.k (.int 6)))]]]) (.k (.non))) (.one (.not (.call 7 [.tup [.k (.int 4), .blt .tuple [.sl (.var 7) none (some (.k (.int 7)))]]])))) [.ret (.k (.bl false))] [],
  .iff (.not (.call 7 [.tup [.k (.int 3), .blt .tuple [.op .Add (.sl (.var 7) none (some (.k (.int 7)))) (.lst [.tup [.k (.str "part"), .k (.int 0), .k (.int 2)]])]]])) [.ret (.k (.bl false))] [],
  .ret (.and (.call 7 [.tup [.k (.int 0), .tup []]]) (.and (.call 7 [.tup [.k (.int 5), .tup []]]) (.one (.cmp .Eq (.tup [.gl "MAX_HOUSEHOLDS" (.int 4), .gl "MAX_LOTS" (.int 8)]) (.tup [.k (.int 4), .k (.int 8)])))))]
def d_law_k30 : Def := ⟨284, "law", ["_law_script"], ["_law_script", "_law_row_here", "_law_yard_here", "_law_lot", "_law_used", "_law_bad", "_law_deed", "_law_few", "_law_lots_here", "_law_there", "_law_household"], b_law_k30, false, none⟩
end EV

set_option linter.all false
set_option autoImplicit false
set_option maxRecDepth 20000
namespace EV
open PySem (Str)
/-! EwY1: the walk through a yard, as the program has it. -/
/-- the store with a Tally behind it -/
def tst (st : Store) (h : Int) (s : Ys) : Store := st ++ [.inst 0 [some (.int h), some (.obj (st.length + 1)), some (.obj (st.length + 2))], .lst (s.lots.map lotD), .lst (s.there.map .int)]
theorem tst_0 (st : Store) (h : Int) (s : Ys) : (tst st h s)[st.length]? = some (.inst 0 [some (.int h), some (.obj (st.length + 1)), some (.obj (st.length + 2))]) := by
  unfold tst; simp
theorem tst_1 (st : Store) (h : Int) (s : Ys) : (tst st h s)[st.length + 1]? = some (.lst (s.lots.map lotD)) := by
  unfold tst; rw [List.getElem?_append_right (by omega)]; simp
theorem tst_2 (st : Store) (h : Int) (s : Ys) : (tst st h s)[st.length + 2]? = some (.lst (s.there.map .int)) := by
  unfold tst; rw [List.getElem?_append_right (by omega)]; simp
theorem set_1 (st : Store) (h : Int) (s : Ys) (l : List (Option Int × List Int)) : (tst st h s).set (st.length + 1) (.lst (l.map lotD)) = tst st h ⟨l, s.there⟩ := by
  unfold tst; rw [List.set_append_right _ _ (by omega)]; simp
theorem set_2 (st : Store) (h : Int) (s : Ys) (l : List Int) : (tst st h s).set (st.length + 2) (.lst (l.map .int)) = tst st h ⟨s.lots, l⟩ := by
  unfold tst; rw [List.set_append_right _ _ (by omega)]; simp
theorem fld_0 (st : Store) (h : Int) (s : Ys) : getFld (.obj st.length) 0 0 (tst st h s) = .ok (.val (.int h)) (tst st h s) := getFld_at (tst_0 st h s) rfl
theorem fld_1 (st : Store) (h : Int) (s : Ys) : getFld (.obj st.length) 0 1 (tst st h s) = .ok (.val (.obj (st.length + 1))) (tst st h s) := getFld_at (tst_0 st h s) rfl
theorem fld_2 (st : Store) (h : Int) (s : Ys) : getFld (.obj st.length) 0 2 (tst st h s) = .ok (.val (.obj (st.length + 2))) (tst st h s) := getFld_at (tst_0 st h s) rfl
theorem isI_0 (st : Store) (h : Int) (s : Ys) : isInst (.obj st.length) 0 (tst st h s) = .ok () (tst st h s) := isInst_at (tst_0 st h s)
theorem isL_1 (st : Store) (h : Int) (s : Ys) : isLst (.obj (st.length + 1)) (tst st h s) = .ok () (tst st h s) := isLst_at (tst_1 st h s)
theorem isL_2 (st : Store) (h : Int) (s : Ys) : isLst (.obj (st.length + 2)) (tst st h s) = .ok () (tst st h s) := isLst_at (tst_2 st h s)
theorem der_1 (st : Store) (h : Int) (s : Ys) : R.der (.val (.obj (st.length + 1))) (tst st h s) = .ok (.lst (s.lots.map lotD)) (tst st h s) := der_lst (tst_1 st h s)
theorem der_2 (st : Store) (h : Int) (s : Ys) : R.der (.val (.obj (st.length + 2))) (tst st h s) = .ok (.lst (s.there.map .int)) (tst st h s) := der_lst (tst_2 st h s)
theorem upd_1 (st : Store) (h : Int) (s : Ys) (p : Option Int × List Int) (hl : s.lots.length ≤ 100000) : updL (.obj (st.length + 1)) (fun xs => if xs.length < 16777216 then some (xs ++ [lotD p]) else none) (tst st h s) = .ok () (tst st h ⟨s.lots ++ [p], s.there⟩) := by
  rw [updL_at (tst_1 st h s) (if_pos (by rw [List.length_map]; omega)), ← List.map_singleton (f := lotD), ← List.map_append, set_1]
theorem upd_2 (st : Store) (h : Int) (s : Ys) (k : Int) (hl : s.there.length ≤ 100000) : updL (.obj (st.length + 2)) (fun xs => if xs.length < 16777216 then some (xs ++ [.int k]) else none) (tst st h s) = .ok () (tst st h ⟨s.lots, s.there ++ [k]⟩) := by
  rw [updL_at (tst_2 st h s) (if_pos (by rw [List.length_map]; omega)), ← List.map_singleton (f := D.int), ← List.map_append, set_2]
theorem wf_intsY (l : List Int) (n : Nat) : wf (n + 1) (.lst (l.map D.int)) = true := by
  show (l.map D.int).all (wf n) = true
  rw [List.all_map, List.all_eq_true]; intro x _; cases n <;> rfl
theorem wf_intsT (l : List Int) (n : Nat) : wf (n + 1) (.tup (l.map D.int)) = true := by
  show (l.map D.int).all (wf n) = true
  rw [List.all_map, List.all_eq_true]; intro x _; cases n <;> rfl
theorem any_ints (l : List Int) (k : Int) : ((l.map D.int).any fun z => eqD z (.int k)) = decide (k ∈ l) := by
  induction l with
  | nil => rfl
  | cons x l ih =>
    rw [List.map_cons, List.any_cons, ih, eqD_ii]
    by_cases hx : x = k
    · subst hx; simp
    · by_cases hk : k ∈ l <;> simp [hx, hk, Ne.symm hx]
theorem notin_ints (l : List Int) (k : Int) : cmpD .NotIn (.int k) (.lst (l.map D.int)) = .ok (.val (.bl (!decide (k ∈ l)))) := by
  show deepM (.int k) (.lst (l.map D.int)) _ = _
  unfold deepM; rw [wf_intsY l 59]; rw [any_ints]; rfl
theorem notin_intsT (l : List Int) (k : Int) : cmpD .NotIn (.int k) (.tup (l.map D.int)) = .ok (.val (.bl (!decide (k ∈ l)))) := by
  show deepM (.int k) (.tup (l.map D.int)) _ = _
  unfold deepM; rw [wf_intsT l 59]; rw [any_ints]; rfl
theorem in_intsT (l : List Int) (k : Int) : cmpD .In (.int k) (.tup (l.map D.int)) = .ok (.val (.bl (decide (k ∈ l)))) := by
  show deepM (.int k) (.tup (l.map D.int)) _ = _
  unfold deepM; rw [wf_intsT l 59]; rw [any_ints]; rfl
theorem in_ints (l : List Int) (k : Int) : cmpD .In (.int k) (.lst (l.map D.int)) = .ok (.val (.bl (decide (k ∈ l)))) := by
  show deepM (.int k) (.lst (l.map D.int)) _ = _
  unfold deepM; rw [wf_intsY l 59]; rw [any_ints]; rfl
theorem eraseIdx_find : ∀ (l : List Int) (k : Int), l.eraseIdx ((l.findIdx (· == k))) = l.erase k
  | [], k => rfl
  | x :: l, k => by
    rw [List.findIdx_cons, List.erase_cons]
    by_cases hx : x = k
    · subst hx; simp
    · have : (x == k) = false := by simpa using hx
      rw [this]
      simp only [cond_false, Bool.false_eq_true, if_false]
      rw [List.eraseIdx_cons_succ, eraseIdx_find l k]
theorem map_eraseIdx {α β : Type} (f : α → β) : ∀ (l : List α) (i : Nat), (l.map f).eraseIdx i = (l.eraseIdx i).map f
  | [], i => rfl
  | x :: l, 0 => rfl
  | x :: l, i + 1 => by rw [List.map_cons, List.eraseIdx_cons_succ, map_eraseIdx f l i]; rfl
theorem findIdx_map (l : List Int) (k : Int) (h : k ∈ l) : remL (.int k) (l.map D.int) = some ((l.erase k).map D.int) := by
  unfold remL
  rw [intsOf_int]
  dsimp only
  rw [if_pos h, map_eraseIdx, eraseIdx_find]
theorem rem_2 (st : Store) (h : Int) (s : Ys) (k : Int) (hk : k ∈ s.there) : updL (.obj (st.length + 2)) (remL (.int k)) (tst st h s) = .ok () (tst st h ⟨s.lots, s.there.erase k⟩) := by
  rw [updL_at (tst_2 st h s) (findIdx_map _ _ hk), set_2]
section
variable {G : Env} {sub : Sub} {fuel : Nat}
def PMake (g : List D → M R) : Prop := ∀ (st : Store) (h : Int) (s : Ys) (o : Option Int) (ps : List Int), s.lots.length ≤ 1000 → s.there.length ≤ 1000 → g [.obj st.length, oD o, .tup (ps.map .int)] (tst st h s) = .ok (.val .non) (tst st h (s.make o ps))
theorem ok_make : PMake (d_Tally_make.fn.run G sub fuel) := by
  intro st h s o ps h1 h2
  refine d_is rfl rfl ?_
  have e1 := upd_2 st h s s.lots.length (by omega)
  have e2 := upd_1 st h ⟨s.lots, s.there ++ [(s.lots.length : Int)]⟩ (o, ps) (by dsimp only; omega)
  have e3 : lotD (o, ps) = .tup [oD o, .tup (ps.map .int)] := rfl
  rw [e3] at e2
  have e4 : s.make o ps = ⟨s.lots ++ [(o, ps)], s.there ++ [(s.lots.length : Int)]⟩ := rfl
  rw [e4]
  generalize oD o = x at *
  generalize D.tup (ps.map .int) = y at *
  simp -implicitDefEqProofs [d_Tally_make, b_Tally_make, startS, fld_1, fld_2, isL_1, isL_2, der_1, der_2, e1, e2]
def PUse (g : List D → M R) : Prop := ∀ (st : Store) (h : Int) (s : Ys) (l : Int), g [.obj st.length, .int l] (tst st h s) = match s.use l with
  | some t => .ok (.val .non) (tst st h t)
  | none => .ex 1 (tst st h s)
theorem ok_use : PUse (d_Tally_use.fn.run G sub fuel) := by
  intro st h s l
  refine d_is rfl rfl ?_
  have e1 := notin_ints s.there l
  unfold Ys.use
  by_cases c : l ∈ s.there
  · have e2 := rem_2 st h s l c
    rw [if_pos c]
    simp -implicitDefEqProofs [d_Tally_use, b_Tally_use, startS, fld_2, isL_2, der_2, e1, c, e2]
  · rw [if_neg c]
    simp -implicitDefEqProofs [d_Tally_use, b_Tally_use, startS, fld_2, isL_2, der_2, e1, c]
end
end EV

set_option linter.all false
set_option autoImplicit false
set_option maxRecDepth 20000
namespace EV
open PySem (Str)
/-! EwY2: a deed; a yard's lots. -/
theorem useAll_app : ∀ (a b : List Int) (s : Ys), s.useAll (a ++ b) = (s.useAll a).bind fun t => t.useAll b
  | [], b, s => rfl
  | l :: a, b, s => by
    show (s.use l).bind (fun t => t.useAll (a ++ b)) = ((s.use l).bind fun t => t.useAll a).bind _
    cases s.use l with
    | none => rfl
    | some u => exact useAll_app a b u
theorem useAll_one (s : Ys) (l : Int) : s.useAll [l] = s.use l := by
  show (s.use l).bind (fun t => some t) = s.use l
  cases s.use l <;> rfl
theorem take_snocY {α : Type} {ls : List α} {i : Nat} {l : α} (h : ls[i]? = some l) : ls.take (i + 1) = ls.take i ++ [l] := by
  rw [List.take_add_one, h]; rfl
theorem useAll_step {s : Ys} {ls : List Int} {i : Nat} {l : Int} (h : ls[i]? = some l) : s.useAll (ls.take (i + 1)) = (s.useAll (ls.take i)).bind fun t => t.use l := by
  rw [take_snocY h, useAll_app]
  congr 1
  funext t
  exact useAll_one t l
theorem useAll_none {s : Ys} {ls : List Int} {i : Nat} (h : s.useAll (ls.take i) = none) : s.useAll ls = none := by
  rw [← List.take_append_drop i ls, useAll_app, h]; rfl
def DeedR (st : Store) (h : Int) (o : Option Ys) (r : Out R) : Prop := match o with
  | some t => r = .ok (.val .non) (tst st h t)
  | none => ∃ t, r = .ex 1 (tst st h t)
section
variable {G : Env} {sub : Sub} {fuel : Nat}
def PDeed (g : List D → M R) : Prop := ∀ (st : Store) (h : Int) (s : Ys) (d : Dd), s.ok → s.lots.length ≤ 8 → d.ok → DeedR st h (s.deed h d) (g [.obj st.length, ddD d] (tst st h s))
theorem ok_deed (h280 : Has G 280 PMake) (h281 : Has G 281 PUse) : PDeed (d_Tally_deed.fn.run G sub fuel) := by
  obtain ⟨km, im, jm⟩ := h280
  obtain ⟨ku, iu, ju⟩ := h281
  intro st h s d hs hl hd
  have hs' : s.there.length ≤ 8 := Nat.le_trans hs hl
  refine d_en (P := DeedR st h (s.deed h d)) rfl rfl ?_
  have ef := fld_0 st h
  have ei := isI_0 st h
  cases d with
  | junk n =>
    rw [deed_junk]
    rcases n with _ | _ | _ | _ | n <;> simp -implicitDefEqProofs [d_Tally_deed, b_Tally_deed, startS, ddD, junkD, DeedR] <;> exact ⟨_, rfl⟩
  | bring x =>
    rw [deed_bring]
    have e1 := jm st h s (some x) [] (by omega) (by omega)
    have e2 : (.tup (([] : List Int).map D.int) : D) = .tup [] := rfl
    rw [e2] at e1
    have e3 : oD (some x) = .int x := rfl
    rw [e3] at e1
    by_cases c : x < 0 ∨ h ≤ x
    · rw [if_pos c]
      by_cases c1 : x < 0
      · simp -implicitDefEqProofs [d_Tally_deed, b_Tally_deed, startS, ddD, DeedR, c1]; exact ⟨_, rfl⟩
      · have c2 : h ≤ x := by omega
        simp -implicitDefEqProofs [d_Tally_deed, b_Tally_deed, startS, ddD, DeedR, c1, c2, ef]; exact ⟨_, rfl⟩
    · rw [if_neg c]
      have c1 : ¬ x < 0 := by omega
      have c2 : ¬ h ≤ x := by omega
      simp -implicitDefEqProofs [d_Tally_deed, b_Tally_deed, startS, ddD, DeedR, c1, c2, ef, ei, im, e1]
  | pour ls =>
    rw [deed_pour]
    by_cases c : ls.length < 2
    · rw [if_pos c]
      have c' : (ls.length : Int) < 2 := by omega
      simp -implicitDefEqProofs [d_Tally_deed, b_Tally_deed, startS, ddD, DeedR, c']; exact ⟨_, rfl⟩
    · rw [if_neg c]
      have c' : ¬ (ls.length : Int) < 2 := by omega
      simp -implicitDefEqProofs [d_Tally_deed, b_Tally_deed, startS, ddD, c']
      refine for_map (fun i ss st' => (∃ x, ss = [.val (.obj st.length), .val (.tup [.str "pour", .tup (ls.map .int)]), x, .emp]) ∧ ∃ t, s.useAll (ls.take i) = some t ∧ st' = tst st h t) ⟨⟨_, rfl⟩, s, rfl, rfl⟩ ?_ ?_
      · rintro i l ss st' hx ⟨⟨x, rfl⟩, t, ht, rfl⟩
        have e1 := ju st h t l
        have e2 := useAll_step (s := s) hx
        rw [ht] at e2
        have e2' : s.useAll (ls.take (i + 1)) = t.use l := e2
        cases e : t.use l with
        | none =>
          rw [e] at e1 e2'
          have e3 := useAll_none e2'
          rw [e3]
          simp -implicitDefEqProofs [ei, iu, e1, DeedR]
          exact ⟨_, rfl⟩
        | some u =>
          rw [e] at e1 e2'
          simp -implicitDefEqProofs [ei, iu, e1, e2']
      · rintro ss st' ⟨⟨x, rfl⟩, t, ht, rfl⟩
        rw [List.take_length] at ht
        rw [ht]
        have h3 := useAll_len ht
        have e1 := jm st h t none ls (by rw [h3.1]; omega) (by omega)
        have e3 : oD none = .non := rfl
        rw [e3] at e1
        simp -implicitDefEqProofs [ei, im, e1, DeedR]
  | part l m =>
    rw [deed_part]
    by_cases c : m < 2 ∨ 3 < m
    · rw [if_pos c]
      by_cases c1 : m < 2
      · simp -implicitDefEqProofs [d_Tally_deed, b_Tally_deed, startS, ddD, DeedR, c1]; exact ⟨_, rfl⟩
      · have c2 : 3 < m := by omega
        simp -implicitDefEqProofs [d_Tally_deed, b_Tally_deed, startS, ddD, DeedR, c1, c2]; exact ⟨_, rfl⟩
    · rw [if_neg c]
      have c1 : ¬ m < 2 := by omega
      have c2 : ¬ 3 < m := by omega
      have sm : small m = true := by unfold small; simp; omega
      have r1 : rngL 0 m = (List.range m.toNat).map fun k : Nat => D.int k := by
        conv => lhs; rw [show m = ((m.toNat : Nat) : Int) by omega]
        exact rngL_nat _
      have e1 := ju st h s l
      cases e : s.use l with
      | none =>
        rw [e] at e1
        simp -implicitDefEqProofs [d_Tally_deed, b_Tally_deed, startS, ddD, DeedR, c1, c2, ei, iu, e1]; exact ⟨_, rfl⟩
      | some u =>
        rw [e] at e1
        have h1 := use_len e
        simp -implicitDefEqProofs [d_Tally_deed, b_Tally_deed, startS, ddD, c1, c2, ei, iu, e1, sm, r1]
        refine for_map (fun i ss st' => (∃ x, ss = [.val (.obj st.length), .val (.tup [.str "part", .int l, .int m]), .emp, x]) ∧ st' = tst st h (u.makes none [l] i)) ⟨⟨_, rfl⟩, rfl⟩ ?_ ?_
        · rintro i k ss st' hx ⟨⟨x, rfl⟩, rfl⟩
          have hi : i < m.toNat := by
            have := (List.getElem?_eq_some_iff.mp hx).1
            simpa using this
          have h2 := makes_len u none [l] i
          rw [h1.1] at h2
          have e2 := jm st h (u.makes none [l] i) none [l] (by omega) (by omega)
          have e3 : oD none = .non := rfl
          rw [e3] at e2
          have e4 : (.tup ([l].map D.int) : D) = .tup [.int l] := rfl
          rw [e4] at e2
          simp -implicitDefEqProofs [ei, im, e2]
          rfl
        · rintro ss st' ⟨⟨x, rfl⟩, rfl⟩
          rw [List.length_range]
          simp [DeedR]
end
end EV

set_option linter.all false
set_option autoImplicit false
set_option maxRecDepth 20000
namespace EV
open PySem (Str)
/-! EwY3: a yard's lots, as the program has them. -/
def TalR (st : Store) (h : Int) (o : Option Ys) (r : Out R) : Prop := match o with
  | some t => r = .ok (.val (.obj st.length)) (tst st h t)
  | none => ∃ st', r = .ex 1 (st ++ st')
theorem go_take_none {h : Int} {s : Ys} {ds : List Dd} {i : Nat} (e : s.go h (ds.take i) = none) : s.go h ds = none := by
  rw [← List.take_append_drop i ds, go_app, e]; rfl
theorem go_one (h : Int) (s : Ys) (d : Dd) : s.go h [d] = s.step h d := by
  rw [go_cons]
  cases s.step h d <;> rfl
theorem go_step {h : Int} {s : Ys} {ds : List Dd} {i : Nat} {d : Dd} (e : ds[i]? = some d) : s.go h (ds.take (i + 1)) = (s.go h (ds.take i)).bind fun t => t.step h d := by
  rw [take_snocY e, go_app]
  congr 1
  funext t
  exact go_one h t d
theorem low_ints (n : Nat) : ∀ l : List Int, lows n (l.map D.int) = true
  | [] => rfl
  | x :: l => by rw [List.map_cons, lows, low_ints n l]; rfl
theorem low_lot (n : Nat) (p : Option Int × List Int) : low n (lotD p) = true := by
  unfold lotD
  obtain ⟨o, ps⟩ := p
  rw [low, lows, lows, lows, low, low_ints]
  cases o <;> rfl
theorem melt_low {n : Nat} {st : Store} {d : D} (h : low n d = true) (hd : ∀ m, d ≠ .obj m) : meltD n st d = some d := by
  cases d <;> first | exact absurd rfl (hd _) | simp only [meltD, h, if_true]
theorem meltDs_map {A : Type} {f : A → D} (n : Nat) (st : Store) : ∀ (l : List A), (∀ a ∈ l, low n (f a) = true ∧ ∀ m, f a ≠ .obj m) → meltDs n st (l.map f) = some (l.map f)
  | [], _ => rfl
  | a :: l, h => by
    have h1 := h a List.mem_cons_self
    rw [List.map_cons, meltDs, melt_low h1.1 h1.2, meltDs_map n st l fun b hb => h b (List.mem_cons_of_mem _ hb)]
def lotsD (l : List (Option Int × List Int)) : List D := l.map lotD
section
variable {G : Env} {sub : Sub} {fuel : Nat}
def PTInit (g : List D → M R) : Prop := ∀ (st : Store) (h : Int), g [.obj st.length, .int h] (st ++ [.inst 0 [none, none, none]]) = .ok (.val .non) (tst st h Ys.e)
theorem ok_init : PTInit (d_Tally___init__.fn.run G sub fuel) := by
  intro st h
  refine d_is rfl rfl ?_
  have g0 : (st ++ [Ob.inst 0 [none, none, none]])[st.length]? = some (.inst 0 [none, none, none]) := by simp
  have e0 : setFld (.obj st.length) 0 0 (.int h) (st ++ [.inst 0 [none, none, none]]) = .ok () (st ++ [.inst 0 [some (.int h), none, none]]) := by
    rw [setFld_at g0 (by decide)]; simp
  have g1 : (st ++ [Ob.inst 0 [some (.int h), none, none]] ++ [Ob.lst []])[st.length]? = some (.inst 0 [some (.int h), none, none]) := by simp
  have e1 : setFld (.obj st.length) 0 1 (.obj (st.length + 1)) (st ++ [.inst 0 [some (.int h), none, none], .lst []]) = .ok () (st ++ [.inst 0 [some (.int h), some (.obj (st.length + 1)), none], .lst []]) := by
    rw [List.append_assoc] at g1
    have g1' : (st ++ [Ob.inst 0 [some (.int h), none, none], Ob.lst []])[st.length]? = some (.inst 0 [some (.int h), none, none]) := g1
    rw [setFld_at g1' (by simp)]
    rw [List.set_append_right _ _ (by omega)]; simp
  have e2 : setFld (.obj st.length) 0 2 (.obj (st.length + 2)) (st ++ [.inst 0 [some (.int h), some (.obj (st.length + 1)), none], .lst [], .lst []]) = .ok () (st ++ [.inst 0 [some (.int h), some (.obj (st.length + 1)), some (.obj (st.length + 2))], .lst [], .lst []]) := by
    have g1' : (st ++ [Ob.inst 0 [some (.int h), some (.obj (st.length + 1)), none], Ob.lst [], Ob.lst []])[st.length]? = some (.inst 0 [some (.int h), some (.obj (st.length + 1)), none]) := by simp
    rw [setFld_at g1' (by simp)]
    rw [List.set_append_right _ _ (by omega)]; simp
  simp -implicitDefEqProofs [d_Tally___init__, b_Tally___init__, startS, e0, e1, e2]
  rfl
def PTally (g : List D → M R) : Prop := ∀ (st : Store) (h : Int) (ds : List Dd), (∀ d ∈ ds, d.ok) → TalR st h (tally h ds) (g [yardD h ds] st)
theorem ok_tally (h282 : Has G 282 PTInit) (h283 : Has G 283 PDeed) : PTally (d_tally_of.fn.run G sub fuel) := by
  obtain ⟨ki, ii, ji⟩ := h282
  obtain ⟨kd, id, jd⟩ := h283
  intro st h ds hok
  refine d_en (P := TalR st h (tally h ds)) rfl rfl ?_
  unfold yardD tally
  by_cases c : h < 1 ∨ 4 < h
  · rw [if_pos c]
    by_cases c1 : h < 1
    · simp -implicitDefEqProofs [d_tally_of, b_tally_of, startS, c1, TalR]
    · have c2 : 4 < h := by omega
      simp -implicitDefEqProofs [d_tally_of, b_tally_of, startS, c1, c2, TalR]
  · rw [if_neg c]
    have c1 : ¬ h < 1 := by omega
    have c2 : ¬ 4 < h := by omega
    have e1 := ji st h
    simp -implicitDefEqProofs [d_tally_of, b_tally_of, startS, c1, c2, ii, e1]
    refine for_map (fun i ss st' => (∃ x, ss = [.val (.tup [.int h, .tup (ds.map ddD)]), .val (.obj st.length), x, .val (.int h), .val (.tup (ds.map ddD))]) ∧ ∃ t, Ys.e.go h (ds.take i) = some t ∧ st' = tst st h t) ⟨⟨_, rfl⟩, Ys.e, rfl, rfl⟩ ?_ ?_
    · rintro i d ss st' hx ⟨⟨x, rfl⟩, t, ht, rfl⟩
      have hm := List.mem_of_getElem? hx
      have hk := go_ok ht (Nat.le_refl _) (by decide)
      have e2 := jd st h t d hk.1 hk.2 (hok d hm)
      have e3 := go_step (h := h) (s := Ys.e) hx
      rw [ht] at e3
      have e3' : Ys.e.go h (ds.take (i + 1)) = t.step h d := e3
      unfold Ys.step at e3'
      cases e : t.deed h d with
      | none =>
        rw [e] at e2 e3'
        obtain ⟨u, e2⟩ := e2
        have e4 := go_take_none e3'
        rw [e4]
        simp -implicitDefEqProofs [isI_0, id, e2, TalR]
        exact ⟨_, rfl⟩
      | some u =>
        rw [e] at e2 e3'
        have hu := deed_ok e hk.1
        have e2' : kd [.obj st.length, ddD d] (tst st h t) = .ok (.val .non) (tst st h u) := e2
        have e3'' : Ys.e.go h (ds.take (i + 1)) = if 8 < u.lots.length ∨ 24 < u.lots.length * h then none else some u := e3'
        have hmul := opD_mulL (i := (u.lots.length : Int)) (j := h) (by omega)
        by_cases d1 : 8 < u.lots.length
        · have d1' : (8 : Int) < u.lots.length := by omega
          rw [if_pos (Or.inl d1)] at e3''
          have e4 := go_take_none e3''
          rw [e4]
          simp -implicitDefEqProofs [isI_0, id, e2', TalR, fld_1, der_1, d1']
          exact ⟨_, rfl⟩
        · have d1' : ¬ (8 : Int) < u.lots.length := by omega
          by_cases d2 : 24 < u.lots.length * h
          · rw [if_pos (Or.inr d2)] at e3''
            have e4 := go_take_none e3''
            rw [e4]
            simp -implicitDefEqProofs [isI_0, id, e2', TalR, fld_1, der_1, d1', d2, hmul]
            exact ⟨_, rfl⟩
          · rw [if_neg (by rintro (z | z); exact d1 z; exact d2 z)] at e3''
            simp -implicitDefEqProofs [isI_0, id, e2', fld_1, der_1, d1', d2, hmul, e3'']
    · rintro ss st' ⟨⟨x, rfl⟩, t, ht, rfl⟩
      rw [List.take_length] at ht
      rw [ht]
      simp -implicitDefEqProofs [TalR]
def PChkYard (g : List D → M R) : Prop := ∀ (h : Int) (ds : List Dd), (∀ d ∈ ds, d.ok) → g [yardD h ds] = match tally h ds with
  | some _ => .ok (.val .non)
  | none => .ex 1
def PLotsOf (g : List D → M R) : Prop := ∀ (h : Int) (ds : List Dd), (∀ d ∈ ds, d.ok) → g [yardD h ds] = match tally h ds with
  | some t => .ok (.own (t.lots.map lotD))
  | none => .ex 1
def PPresent (g : List D → M R) : Prop := ∀ (h : Int) (ds : List Dd), (∀ d ∈ ds, d.ok) → g [yardD h ds] = match tally h ds with
  | some t => .ok (.own ((sortI t.there).map .int))
  | none => .ex 1
theorem ok_chk_yard (h147 : Has G 147 PTally) : PChkYard (d_check_yard.fn.run G sub fuel) := by
  obtain ⟨kt, it, jt⟩ := h147
  intro h ds hok
  funext st
  rw [d_run' rfl rfl]
  have e := jt st h ds hok
  cases c : tally h ds with
  | none =>
    rw [c] at e
    obtain ⟨st', e⟩ := e
    refine drop_ex (st' := st') ?_
    generalize yardD h ds = y at *
    simp -implicitDefEqProofs [d_check_yard, b_check_yard, startS, it, e]
  | some t =>
    rw [c] at e
    have e' : kt [yardD h ds] st = .ok (.val (.obj st.length)) (tst st h t) := e
    refine drop_at (st' := (tst st h t).drop st.length) (r := .val .non) ?_ ?_
    · have e2 : st ++ (tst st h t).drop st.length = tst st h t := by unfold tst; simp
      rw [e2]
      generalize yardD h ds = y at *
      simp -implicitDefEqProofs [d_check_yard, b_check_yard, startS, it, e']
    · rfl
theorem ok_lots_of (h147 : Has G 147 PTally) : PLotsOf (d_lots_of.fn.run G sub fuel) := by
  obtain ⟨kt, it, jt⟩ := h147
  intro h ds hok
  funext st
  rw [d_run' rfl rfl]
  have e := jt st h ds hok
  cases c : tally h ds with
  | none =>
    rw [c] at e
    obtain ⟨st', e⟩ := e
    refine drop_ex (st' := st') ?_
    generalize yardD h ds = y at *
    simp -implicitDefEqProofs [d_lots_of, b_lots_of, startS, it, e]
  | some t =>
    rw [c] at e
    have e' : kt [yardD h ds] st = .ok (.val (.obj st.length)) (tst st h t) := e
    have e2 : st ++ (tst st h t).drop st.length = tst st h t := by unfold tst; simp
    refine drop_at (st' := (tst st h t).drop st.length) (r := .val (.obj (st.length + 1))) ?_ ?_
    · rw [e2]
      generalize yardD h ds = y at *
      simp -implicitDefEqProofs [d_lots_of, b_lots_of, startS, it, e', fld_1]
    · rw [e2]
      unfold meltR
      dsimp only
      rw [if_neg (by omega), tst_1]
      dsimp only
      rw [meltDs_map _ _ _ fun p _ => ⟨low_lot _ p, fun m hm => by cases hm⟩]
      rfl
theorem ok_present (h147 : Has G 147 PTally) : PPresent (d_present.fn.run G sub fuel) := by
  obtain ⟨kt, it, jt⟩ := h147
  intro h ds hok
  funext st
  rw [d_run' rfl rfl]
  have e := jt st h ds hok
  cases c : tally h ds with
  | none =>
    rw [c] at e
    obtain ⟨st', e⟩ := e
    refine drop_ex (st' := st') ?_
    generalize yardD h ds = y at *
    simp -implicitDefEqProofs [d_present, b_present, startS, it, e]
  | some t =>
    rw [c] at e
    have e' : kt [yardD h ds] st = .ok (.val (.obj st.length)) (tst st h t) := e
    have e2 : st ++ (tst st h t).drop st.length = tst st h t := by unfold tst; simp
    refine drop_at (st' := (tst st h t).drop st.length) (r := .own ((sortI t.there).map .int)) ?_ ?_
    · rw [e2]
      generalize yardD h ds = y at *
      simp -implicitDefEqProofs [d_present, b_present, startS, it, e', fld_2, der_2]
    · rw [e2]
      unfold meltR
      dsimp only
      rw [meltDs_map _ _ _ fun p _ => ⟨rfl, fun m hm => by cases hm⟩]
      rfl
def PWidth (g : List D → M R) : Prop := ∀ (h : Int) (ds : List Dd), (∀ d ∈ ds, d.ok) → g [yardD h ds] = match tally h ds with
  | some t => .ok (.val (.int (t.lots.length * h)))
  | none => .ex 1
theorem tally_h {h : Int} {ds : List Dd} {t : Ys} (e : tally h ds = some t) : 1 ≤ h ∧ h ≤ 4 ∧ Ys.e.go h ds = some t := by
  unfold tally at e
  split at e
  · cases e
  · rename_i hh; exact ⟨by omega, by omega, e⟩
theorem ok_width (h148 : Has G 148 PLotsOf) : PWidth (d_width_of.fn.run G sub fuel) := by
  obtain ⟨kt, it, jt⟩ := h148
  intro h ds hok
  rw [d_run rfl rfl]
  have e := jt h ds hok
  cases c : tally h ds with
  | none =>
    rw [c] at e
    generalize hy : yardD h ds = y at *
    simp -implicitDefEqProofs [d_width_of, b_width_of, startS, it, e]
  | some t =>
    rw [c] at e
    dsimp only at e
    have hh := tally_h c
    have hmul := opD_mulR (i := (t.lots.length : Int)) (j := h) (by omega)
    unfold yardD at *
    generalize D.tup (ds.map ddD) = y at *
    simp -implicitDefEqProofs [d_width_of, b_width_of, startS, it, e, hmul]
def PUnknown (g : List D → M R) : Prop := ∀ (h : Int) (ds : List Dd) (t : Ys) (lot x : Int), (∀ d ∈ ds, d.ok) → tally h ds = some t → g [yardD h ds, .int lot, .int x] = if lot < 0 ∨ (t.lots.length : Int) ≤ lot ∨ x < 0 ∨ h ≤ x then .ex 4 else .ok (.val (.int (lot * h + x)))
theorem ok_unknown (h148 : Has G 148 PLotsOf) : PUnknown (d_unknown.fn.run G sub fuel) := by
  obtain ⟨kt, it, jt⟩ := h148
  intro h ds t lot x hok c
  rw [d_run rfl rfl]
  have e := jt h ds hok
  rw [c] at e
  dsimp only at e
  have hh := tally_h c
  have hmul := opD_mulR (i := lot) (j := h) (by omega)
  unfold yardD at *
  generalize D.tup (ds.map ddD) = y at *
  by_cases c1 : lot < 0
  · rw [if_pos (Or.inl c1)]
    simp -implicitDefEqProofs [d_unknown, b_unknown, startS, c1]
  · by_cases c2 : (t.lots.length : Int) ≤ lot
    · rw [if_pos (Or.inr (Or.inl c2))]
      simp -implicitDefEqProofs [d_unknown, b_unknown, startS, c1, it, e, c2]
    · by_cases c3 : x < 0
      · rw [if_pos (Or.inr (Or.inr (Or.inl c3)))]
        simp -implicitDefEqProofs [d_unknown, b_unknown, startS, c1, it, e, c2, c3]
      · by_cases c4 : h ≤ x
        · rw [if_pos (Or.inr (Or.inr (Or.inr c4)))]
          simp -implicitDefEqProofs [d_unknown, b_unknown, startS, c1, it, e, c2, c3, c4]
        · rw [if_neg (by rintro (z | z | z | z); exact c1 z; exact c2 z; exact c3 z; exact c4 z)]
          simp -implicitDefEqProofs [d_unknown, b_unknown, startS, c1, it, e, c2, c3, c4, hmul]
end
end EV

set_option linter.all false
set_option autoImplicit false
set_option maxRecDepth 20000
namespace EV
open PySem (Str)
/-! EwY4: the row of a law about yards. -/
def RowY (zs : List Int) : Prop := zs.length ≤ 2600 ∧ ∀ z ∈ zs, 0 ≤ z ∧ z < 1009
def rowAt (zs : List Int) (k : Int) : Int := if 0 ≤ k ∧ k < zs.length then zs.getD k.toNat 0 else 0
theorem rowAt_b {zs : List Int} (h : RowY zs) (k : Int) : 0 ≤ rowAt zs k ∧ rowAt zs k < 1009 := by
  unfold rowAt
  split
  · rename_i c
    rw [List.getD_eq_getElem?_getD, List.getElem?_eq_getElem (by omega)]
    exact h.2 _ (List.getElem_mem _)
  · omega
section
variable {G : Env} {sub : Sub} {fuel : Nat}
def PRowY (g : List D → M R) : Prop := ∀ (ns : List Int), ns.length ≤ 63 → ∃ zs, RowY zs ∧ g [.scr (ns.map .int)] = .ok (.own (zs.map .int))
def RowM (n : Nat) (zs : List Int) : Prop := zs.length ≤ n ∧ ∀ z ∈ zs, 0 ≤ z ∧ z < 1009
theorem RowM.snoc {n : Nat} {zs : List Int} {z : Int} (h : RowM n zs) (h0 : 0 ≤ z) (h1 : z < 1009) : RowM (n + 1) (zs ++ [z]) := by
  refine ⟨by simp [h.1], fun y hy => ?_⟩
  rcases List.mem_append.mp hy with hy | hy
  · exact h.2 y hy
  · rw [List.mem_singleton] at hy; subst hy; exact ⟨h0, h1⟩
theorem RowM.mono {n m : Nat} {zs : List Int} (h : RowM n zs) (hm : n ≤ m) : RowM m zs := ⟨Nat.le_trans h.1 hm, h.2⟩
theorem ok_rowY : PRowY (d__law_row_v4.fn.run G sub fuel) := by
  intro ns hl
  have hp : opD .Pow (.int 10) (.int 18) = .ok (.val (.int 1000000000000000000)) := by simp [opD]
  have m1 : ∀ x : Int, opD .Mod (.int x) (.int 1009) = .ok (.val (.int (x % 1009))) := fun x => opD_mod (by omega)
  have dv : ∀ x : Int, opD .FloorDiv (.int x) (.int 1009) = .ok (.val (.int (x / 1009))) := fun x => opD_div (by omega) (by decide +kernel)
  have a1 : ∀ x : Int, opD .Mod (.int x) (.int 2147483647) = .ok (.val (.int (x % 2147483647))) := fun x => opD_mod (by omega)
  have a3 : ∀ x : Int, opD .FloorDiv (.int x) (.int 7) = .ok (.val (.int (x / 7))) := fun x => opD_div (by omega) (by decide +kernel)
  have b1 : ∀ x : Int, opD .Mult (.int x) (.int 48271) = .ok (.val (.int (x * 48271))) := fun x => opD_mulR (by decide)
  have b2 : ∀ x : Int, opD .Mult (.int x) (.int 69621) = .ok (.val (.int (x * 69621))) := fun x => opD_mulR (by decide)
  have b3 : ∀ x : Int, opD .Mult (.int x) (.int 16807) = .ok (.val (.int (x * 16807))) := fun x => opD_mulR (by decide)
  have b4 : ∀ x : Int, opD .Mult (.int 11) (.int x) = .ok (.val (.int (11 * x))) := fun x => opD_mulL (by decide)
  have hsm : small (ns.length : Int) = true := by unfold small; simp; omega
  have hs40 : small 40 = true := by decide
  have hs6 : small 6 = true := by decide
  have r40 : rngL 0 40 = (List.range 40).map fun k : Nat => D.int k := rngL_nat 40
  have r6 : rngL 0 6 = (List.range 6).map fun k : Nat => D.int k := rngL_nat 6
  have r1 : rngL 0 (ns.length : Int) = (List.range ns.length).map fun k : Nat => D.int k := rngL_nat _
  refine d_fnp (P := fun m => ∃ zs, RowY zs ∧ m = .ok (.own (zs.map .int))) rfl rfl ?_
  simp -implicitDefEqProofs [d__law_row_v4, b__law_row_v4, startS, hsm, r1]
  refine for_fn (fun i s => ∃ (zs : List Int) (s2 s3 s4 s5 : S), RowM (40 * i) zs ∧ s = [.val (.scr (ns.map .int)), .own (zs.map .int), s2, s3, s4, s5]) ⟨[], .emp, .emp, .emp, .emp, ⟨by simp, by simp⟩, rfl⟩ ?_ ?_
  · rintro i x s hx ⟨zs, s2, s3, s4, s5, hz, rfl⟩
    have hi := (List.getElem?_eq_some_iff.mp hx).1
    rw [List.length_range] at hi
    have hx' : x = i := by
      rw [List.getElem?_range hi] at hx; exact (Option.some.inj hx).symm
    subst hx'
    have at1 : atI (ns.map D.int) (x : Int) = some (.int ns[x]) := by
      rw [atI_map _ _ _ (by omega) (by omega), Int.toNat_natCast, List.getElem?_eq_getElem hi]; rfl
    generalize ns[x] = v at *
    by_cases hb : (1000000000000000000 : Int) ≤ v.natAbs
    · simp -implicitDefEqProofs [at1, hp, hb, hs40, r40]
      refine for_fn (Q := fun f => ∃ s', f = .nx s' ∧ ∃ (zs : List Int), RowM (40 * (x + 1)) zs ∧ ∃ s2 s3 s4 s5, s' = [.val (.scr (ns.map .int)), .own (zs.map .int), s2, s3, s4, s5]) (fun j s => ∃ (zs : List Int) (y : Int) (s4 : S), 0 ≤ y ∧ RowM (40 * x + j) zs ∧ s = [.val (.scr (ns.map .int)), .own (zs.map .int), .val (.int x), .val (.int y), s4, s5]) ⟨zs, v.natAbs, s4, by omega, hz, rfl⟩ ?_ ?_
      · rintro j w s hw ⟨zs, y, s4, hy, hz, rfl⟩
        have hj := (List.getElem?_eq_some_iff.mp hw).1
        rw [List.length_range] at hj
        have hl : zs.length < 16777216 := by have := hz.1; omega
        by_cases hy0 : 0 < y
        · refine ⟨_, ?_, zs ++ [y % 1009], y / 1009, .val (.int w), by omega, hz.snoc (by omega) (by omega), rfl⟩
          simp -implicitDefEqProofs [hy0, m1, dv, hl]
        · refine ⟨_, ?_, zs, y, .val (.int w), by omega, hz.mono (by omega), rfl⟩
          simp -implicitDefEqProofs [hy0]
      · rintro s ⟨zs, y, s4, hy, hz, rfl⟩
        rw [List.length_range] at hz
        exact ⟨_, rfl, zs, hz.mono (by omega), _, _, _, _, rfl⟩
    · simp -implicitDefEqProofs [at1, hp, hb, hs6, r6, a1, b1, b2]
      generalize ((v.natAbs : Int) * 48271 + (x : Int) * 69621 + 12345) % 2147483647 = q at *
      refine for_fn (Q := fun f => ∃ s', f = .nx s' ∧ ∃ (zs : List Int), RowM (40 * (x + 1)) zs ∧ ∃ s2 s3 s4 s5, s' = [.val (.scr (ns.map .int)), .own (zs.map .int), s2, s3, s4, s5]) (fun j s => ∃ (zs : List Int) (y : Int) (s4 : S), RowM (40 * x + j) zs ∧ s = [.val (.scr (ns.map .int)), .own (zs.map .int), .val (.int x), .val (.int (v.natAbs : Int)), s4, .val (.int y)]) ⟨zs, q, s4, hz, rfl⟩ ?_ ?_
      · rintro j w s hw ⟨zs, y, s4, hz, rfl⟩
        have hj := (List.getElem?_eq_some_iff.mp hw).1
        rw [List.length_range] at hj
        have hl : zs.length < 16777216 := by have := hz.1; omega
        refine ⟨_, ?_, zs ++ [((y * 16807 + 11 * (w : Int) + 1) % 2147483647 / 7) % 1009], (y * 16807 + 11 * (w : Int) + 1) % 2147483647, .val (.int w), hz.snoc (by omega) (by omega), rfl⟩
        simp -implicitDefEqProofs [m1, a1, a3, b3, b4, hl]
      · rintro s ⟨zs, y, s4, hz, rfl⟩
        rw [List.length_range] at hz
        exact ⟨_, rfl, zs, hz.mono (by omega), _, _, _, _, rfl⟩
  · rintro s ⟨zs, s2, s3, s4, s5, hz, rfl⟩
    rw [List.length_range] at hz
    simp -implicitDefEqProofs
    exact ⟨zs, ⟨by have := hz.1; omega, hz.2⟩, rfl⟩
def PRowAt (g : List D → M R) : Prop := ∀ (zs : List Int) (k : Int), RowY zs → g [.lst (zs.map .int), .int k] = .ok (.val (.int (rowAt zs k)))
theorem ok_rowAt : PRowAt (d__law_at.fn.run G sub fuel) := by
  intro zs k h
  rw [d_run rfl rfl]
  unfold rowAt
  by_cases c1 : 0 ≤ k
  · by_cases c2 : k < zs.length
    · have at1 : atI (zs.map D.int) k = some (.int (zs.getD k.toNat 0)) := by
        rw [atI_map _ _ _ c1 c2, List.getElem?_eq_getElem (by omega), List.getD_eq_getElem?_getD, List.getElem?_eq_getElem (by omega)]; rfl
      simp -implicitDefEqProofs [d__law_at, b__law_at, startS, c1, c2, at1]
    · simp -implicitDefEqProofs [d__law_at, b__law_at, startS, c1, c2]
  · simp -implicitDefEqProofs [d__law_at, b__law_at, startS, c1]
end
end EV

set_option linter.all false
set_option autoImplicit false
set_option maxRecDepth 20000
namespace EV
open PySem (Str)
/-! EwY5: what holds of lots; the yards that a law makes. -/
/-- each lot there is one of the lots, and there once -/
def Ys.Good (s : Ys) : Prop := s.there.Nodup ∧ ∀ x ∈ s.there, 0 ≤ x ∧ x < s.lots.length
theorem good_e : Ys.e.Good := ⟨List.nodup_nil, by simp [Ys.e]⟩
theorem Ys.Good.use {s t : Ys} {l : Int} (h : s.Good) (e : s.use l = some t) : t.Good := by
  unfold Ys.use at e
  split at e
  · cases e
    refine ⟨h.1.erase l, fun x hx => h.2 x (List.mem_of_mem_erase hx)⟩
  · cases e
theorem Ys.Good.useAll : ∀ {ls : List Int} {s t : Ys}, s.Good → s.useAll ls = some t → t.Good
  | [], s, t, h, e => by cases e; exact h
  | l :: ls, s, t, h, e => by
    unfold Ys.useAll at e
    cases c : s.use l with
    | none => rw [c] at e; cases e
    | some u => rw [c] at e; exact Ys.Good.useAll (h.use c) e
theorem Ys.Good.make {s : Ys} (h : s.Good) (o : Option Int) (ps : List Int) : (s.make o ps).Good := by
  unfold Ys.make
  refine ⟨?_, ?_⟩
  · dsimp only
    rw [List.nodup_append]
    refine ⟨h.1, by simp, ?_⟩
    intro a ha b hb
    rw [List.mem_singleton] at hb
    subst hb
    have := h.2 a ha
    omega
  · intro x hx
    dsimp only at hx ⊢
    rw [List.length_append, List.length_singleton]
    rcases List.mem_append.mp hx with hx | hx
    · have := h.2 x hx; omega
    · rw [List.mem_singleton] at hx; omega
theorem Ys.Good.makes {s : Ys} (h : s.Good) (o : Option Int) (ps : List Int) : ∀ n, (s.makes o ps n).Good
  | 0 => h
  | n + 1 => (Ys.Good.makes h o ps n).make o ps
theorem Ys.Good.deed {s t : Ys} {h : Int} {d : Dd} (hs : s.Good) (e : s.deed h d = some t) : t.Good := by
  cases d with
  | bring x =>
    rw [deed_bring] at e
    split at e
    · cases e
    · cases e; exact hs.make _ _
  | pour ls =>
    rw [deed_pour] at e
    split at e
    · cases e
    · cases c : s.useAll ls with
      | none => rw [c] at e; cases e
      | some u => rw [c] at e; cases e; exact (hs.useAll c).make _ _
  | part l m =>
    rw [deed_part] at e
    split at e
    · cases e
    · cases c : s.use l with
      | none => rw [c] at e; cases e
      | some u => rw [c] at e; cases e; exact (hs.use c).makes _ _ _
  | junk n => cases e
theorem Ys.Good.step {s t : Ys} {h : Int} {d : Dd} (hs : s.Good) (e : s.step h d = some t) : t.Good := by
  unfold Ys.step at e
  cases c : s.deed h d with
  | none => rw [c] at e; cases e
  | some u =>
    rw [c] at e
    have e' : (if 8 < u.lots.length ∨ 24 < u.lots.length * h then none else some u) = some t := e
    split at e'
    · cases e'
    · cases e'; exact hs.deed c
theorem Ys.Good.go : ∀ {ds : List Dd} {s t : Ys} {h : Int}, s.Good → s.go h ds = some t → t.Good
  | [], s, t, h, hs, e => by cases e; exact hs
  | d :: ds, s, t, h, hs, e => by
    rw [go_cons] at e
    cases c : s.step h d with
    | none => rw [c] at e; cases e
    | some u => rw [c] at e; exact Ys.Good.go (hs.step c) e
theorem tally_good {h : Int} {ds : List Dd} {t : Ys} (e : tally h ds = some t) : t.Good := good_e.go (tally_h e).2.2
theorem tally_sz {h : Int} {ds : List Dd} {t : Ys} (e : tally h ds = some t) : t.lots.length ≤ 8 ∧ t.there.length ≤ t.lots.length := by
  have := go_ok (tally_h e).2.2 (Nat.le_refl _) (by decide)
  exact ⟨this.2, this.1⟩
/-! ### popping -/
theorem nodup_pop : ∀ {l : List Int} {i : Nat} {x : Int}, l.Nodup → l[i]? = some x → l.eraseIdx i = l.erase x
  | y :: l, 0, x, hn, h => by
    cases h; simp
  | y :: l, i + 1, x, hn, h => by
    have h' : l[i]? = some x := h
    have hn' := List.nodup_cons.mp hn
    have hx := List.mem_of_getElem? h'
    have hne : y ≠ x := by rintro rfl; exact hn'.1 hx
    rw [List.eraseIdx_cons_succ, nodup_pop hn'.2 h', List.erase_cons_tail (by simpa using hne)]
theorem Ys.Good.pop {s : Ys} (h : s.Good) {i : Nat} {x : Int} (hx : s.there[i]? = some x) : s.use x = some ⟨s.lots, s.there.eraseIdx i⟩ := by
  unfold Ys.use
  rw [if_pos (List.mem_of_getElem? hx), nodup_pop h.1 hx]
theorem makes_there (s : Ys) (o : Option Int) (ps : List Int) : ∀ n, (s.makes o ps n).there = s.there ++ (List.range n).map fun j : Nat => (s.lots.length : Int) + j
  | 0 => by simp [Ys.makes]
  | n + 1 => by
    have h1 := (makes_len s o ps n).1
    show (s.makes o ps n).there ++ [((s.makes o ps n).lots.length : Int)] = _
    rw [makes_there s o ps n, h1, List.range_succ, List.map_append, List.append_assoc]
    simp
theorem last_at (st : Store) (o : Ob) : (st ++ [o])[st.length]? = some o := by simp
theorem last_set (st : Store) (o p : Ob) : (st ++ [o]).set st.length p = st ++ [p] := by
  rw [List.set_append_right _ _ (Nat.le_refl _)]; simp
theorem last_app (st : Store) (xs : List Int) (x : Int) (h : xs.length ≤ 100000) : updL (.obj st.length) (fun ys => if ys.length < 16777216 then some (ys ++ [.int x]) else none) (st ++ [.lst (xs.map .int)]) = .ok () (st ++ [.lst ((xs ++ [x]).map .int)]) := by
  rw [updL_at (last_at st _) (if_pos (by rw [List.length_map]; omega)), last_set, List.map_append]; rfl
theorem last_len (st : Store) (xs : List Int) : R.der (.val (.obj st.length)) (st ++ [.lst (xs.map .int)]) = .ok (.lst (xs.map .int)) (st ++ [.lst (xs.map .int)]) := der_lst (last_at st _)
theorem last_isL (st : Store) (xs : List Int) : isLst (.obj st.length) (st ++ [.lst (xs.map .int)]) = .ok () (st ++ [.lst (xs.map .int)]) := isLst_at (last_at st _)
theorem last_pop (st : Store) (xs : List Int) (i : Int) (x : Int) (h0 : 0 ≤ i) (h : xs[i.toNat]? = some x) (hl : xs.length ≤ 1000) : popL (.obj st.length) (some i) (st ++ [.lst (xs.map .int)]) = .ok (.val (.int x)) (st ++ [.lst ((xs.eraseIdx i.toNat).map .int)]) := by
  have h1 := (List.getElem?_eq_some_iff.mp h).1
  rw [popL_at (last_at st _) h0 (by omega) (y := .int x) (by rw [List.getElem?_map, h]; rfl), last_set, map_eraseIdx]
end EV

set_option linter.all false
set_option autoImplicit false
set_option maxRecDepth 20000
namespace EV
open PySem (Str)
/-! EwY6: the yards that a law makes. -/
def YdP (st : Store) (o : Out R) : Prop := ∃ h ds t, tally h ds = some t ∧ (∀ d ∈ ds, d.ok) ∧ o = .ok (.val (yardD h ds)) st
theorem step_bring {h : Int} {t : Ys} {x : Int} (h0 : 0 ≤ x) (h1 : x < h) (c1 : (t.lots.length : Int) + 1 ≤ 8) (c2 : ((t.lots.length : Int) + 1) * h ≤ 24) : t.step h (.bring x) = some (t.make (some x) []) := by
  unfold Ys.step
  rw [deed_bring, if_neg (by omega)]
  show (if _ then none else some _) = _
  have e : (t.make (some x) []).lots.length = t.lots.length + 1 := by unfold Ys.make; simp
  rw [e, if_neg]
  rintro (z | z)
  · omega
  · rw [show ((t.lots.length + 1 : Nat) : Int) = (t.lots.length : Int) + 1 by omega] at z; omega
theorem step_part {h : Int} {t : Ys} {m : Int} {i : Nat} {l : Int} (hg : t.Good) (hl : t.there[i]? = some l) (h0 : 2 ≤ m) (h1 : m ≤ 3) (c1 : (t.lots.length : Int) + m ≤ 8) (c2 : ((t.lots.length : Int) + m) * h ≤ 24) : t.step h (.part l m) = some (Ys.makes ⟨t.lots, t.there.eraseIdx i⟩ none [l] m.toNat) := by
  unfold Ys.step
  rw [deed_part, if_neg (by omega), hg.pop hl]
  show (if _ then none else some _) = _
  have e := (makes_len ⟨t.lots, t.there.eraseIdx i⟩ none [l] m.toNat).1
  dsimp only at e
  rw [e, if_neg]
  rintro (z | z)
  · omega
  · rw [show ((t.lots.length + m.toNat : Nat) : Int) = (t.lots.length : Int) + m by omega] at z; omega
theorem step_pour {h : Int} {t u : Ys} {ls : List Int} (hu : t.useAll ls = some u) (h0 : 2 ≤ ls.length) (c1 : (t.lots.length : Int) + 1 ≤ 8) (c2 : ((t.lots.length : Int) + 1) * h ≤ 24) : t.step h (.pour ls) = some (u.make none ls) := by
  unfold Ys.step
  rw [deed_pour, if_neg (by omega), hu]
  show (if _ then none else some _) = _
  have e : (u.make none ls).lots.length = t.lots.length + 1 := by unfold Ys.make; simp [(useAll_len hu).1]
  rw [e, if_neg]
  rintro (z | z)
  · omega
  · rw [show ((t.lots.length + 1 : Nat) : Int) = (t.lots.length : Int) + 1 by omega] at z; omega
theorem go_snoc {h : Int} {s t u : Ys} {ds : List Dd} {d : Dd} (e : s.go h ds = some t) (e2 : t.step h d = some u) : s.go h (ds ++ [d]) = some u := by
  rw [go_app, e]
  exact (go_one h t d).trans e2
theorem dok_snoc {ds : List Dd} {d : Dd} (h : ∀ d ∈ ds, d.ok) (hd : d.ok) : ∀ e ∈ ds ++ [d], e.ok := by
  intro e he
  rcases List.mem_append.mp he with he | he
  · exact h e he
  · rw [List.mem_singleton] at he; subst he; exact hd
theorem low_dd (n : Nat) (d : Dd) : low n (ddD d) = true := by
  cases d with
  | bring x => simp [ddD, low, lows]
  | pour ls => simp [ddD, low, lows, low_ints]
  | part l m => simp [ddD, low, lows]
  | junk k => rcases k with _ | _ | _ | _ | k <;> simp [ddD, junkD, low, lows]
theorem low_dds (n : Nat) : ∀ ds : List Dd, lows n (ds.map ddD) = true
  | [] => rfl
  | d :: ds => by rw [List.map_cons, lows, low_dds n ds, low_dd]; rfl
theorem low_yard (n : Nat) (h : Int) (ds : List Dd) : low n (yardD h ds) = true := by
  simp [yardD, low, lows, low_dds]
section
variable {G : Env} {sub : Sub} {fuel : Nat}
def PLYard (g : List D → M R) : Prop := ∀ (st : Store) (zs : List Int) (a m : Int), RowY zs → 0 ≤ m → m ≤ 100 → YdP st (g [.lst (zs.map .int), .int a, .int m] st)
def yInv (st : Store) (Z : D) (a m h : Int) (i : Nat) (ss : List S) (st' : Store) : Prop := ∃ ds t s7 s8 s9 s10 s11 s12 s13 s14 s15, Ys.e.go h ds = some t ∧ (∀ d ∈ ds, d.ok) ∧ ds.length ≤ i ∧ ss = [.val Z, .val (.int a), .val (.int m), .val (.int h), .own (ds.map ddD), .val (.obj st.length), .val (.int t.lots.length), s7, s8, s9, s10, s11, s12, s13, s14, s15] ∧ st' = st ++ [.lst (t.there.map .int)]
theorem ok_lyard (h149 : Has G 149 PRowAt) : PLYard (d__law_yard.fn.run G sub fuel) := by
  obtain ⟨ka, ia, ja⟩ := h149
  intro st zs a m hz hm0 hm1
  have ja' : ∀ k, ka [.lst (zs.map .int), .int k] = .ok (.val (.int (rowAt zs k))) := fun k => ja zs k hz
  have ab := fun k => rowAt_b hz k
  have m4 : ∀ x : Int, opD .Mod (.int x) (.int 4) = .ok (.val (.int (x % 4))) := fun x => opD_mod (by omega)
  have m5 : ∀ x : Int, opD .Mod (.int x) (.int 5) = .ok (.val (.int (x % 5))) := fun x => opD_mod (by omega)
  have m2 : ∀ x : Int, opD .Mod (.int x) (.int 2) = .ok (.val (.int (x % 2))) := fun x => opD_mod (by omega)
  have d5 : ∀ x : Int, opD .FloorDiv (.int x) (.int 5) = .ok (.val (.int (x / 5))) := fun x => opD_div (by omega) (by decide +kernel)
  have b2 : ∀ x : Int, opD .Mult (.int 2) (.int x) = .ok (.val (.int (2 * x))) := fun x => opD_mulL (by decide)
  have mm : ∀ x : Int, opD .Mod (.int x) (.int (m + 1)) = .ok (.val (.int (x % (m + 1)))) := fun x => opD_mod (by omega)
  rw [d_run' rfl rfl]
  suffices H : En (fun o => ∃ h ds t y, tally h ds = some t ∧ (∀ d ∈ ds, d.ok) ∧ o = .ok (.val (yardD h ds)) (st ++ [y])) (evTs G sub fuel d__law_yard.body (startS d__law_yard.N.length [.lst (zs.map .int), .int a, .int m]) st) by
    obtain ⟨h, ds, t, y, h1, h2, h3⟩ := H
    refine ⟨h, ds, t, h1, h2, drop_at (st' := [y]) (r := .val (yardD h ds)) ?_ ?_⟩
    · rw [fin_app]; exact h3
    · unfold meltR yardD
      dsimp only
      rw [if_pos]
      exact low_yard st.length h ds
  generalize hZ : D.lst (zs.map .int) = Z at *
  have hh0 : 1 ≤ 1 + rowAt zs a % 4 := by omega
  have hh1 : 1 + rowAt zs a % 4 ≤ 4 := by omega
  have hb : 0 ≤ rowAt zs (a + 1) % (m + 1) ∧ rowAt zs (a + 1) % (m + 1) < m + 1 := ⟨Int.emod_nonneg _ (by omega), Int.emod_lt_of_pos _ (by omega)⟩
  generalize hE : rowAt zs (a + 1) % (m + 1) = E' at *
  have sE : small E' = true := by unfold small; simp; omega
  have rE : rngL 0 E' = (List.range E'.toNat).map fun k : Nat => D.int k := by
    conv => lhs; rw [show E' = ((E'.toNat : Nat) : Int) by omega]
    exact rngL_nat _
  simp -implicitDefEqProofs [d__law_yard, b__law_yard, startS, ia, ja', m4, mm, hE, sE, rE]
  generalize hH : 1 + rowAt zs a % 4 = h at *
  have mh : ∀ x : Int, opD .Mod (.int x) (.int h) = .ok (.val (.int (x % h))) := fun x => opD_mod (by omega)
  refine for_map (yInv st Z a m h) ⟨[], Ys.e, .emp, .emp, .emp, .emp, .emp, .emp, .emp, .emp, .emp, rfl, by simp, Nat.le_refl _, rfl, rfl⟩ ?_ ?_
  · rintro i k ss st' hx ⟨ds, t, s7, s8, s9, s10, s11, s12, s13, s14, s15, hgo, hok, hlen, rfl, rfl⟩
    have hi := (List.getElem?_eq_some_iff.mp hx).1
    rw [List.length_range] at hi
    have hg : t.Good := good_e.go hgo
    have hsz := go_ok hgo (Nat.le_refl _) (by decide)
    have hsz2 : t.there.length ≤ 8 := Nat.le_trans hsz.1 hsz.2
    have hdl : ds.length < 16777216 := by omega
    have n0 := ab (a + 2 + 2 * k)
    have x0 := ab (a + 3 + 2 * k)
    generalize hN : rowAt zs (a + 2 + 2 * (k : Int)) = nu at *
    generalize hX : rowAt zs (a + 3 + 2 * (k : Int)) = x at *
    have mulh : ∀ y : Int, opD .Mult (.int y) (.int h) = .ok (.val (.int (y * h))) := fun y => opD_mulR (by omega)
    by_cases c3 : nu % 5 = 3 ∧ 0 < t.there.length
    · obtain ⟨c3, c3'⟩ := c3
      have md0 : 2 ≤ 2 + nu / 5 % 2 := by omega
      have md1 : 2 + nu / 5 % 2 ≤ 3 := by omega
      generalize hM : 2 + nu / 5 % 2 = md at *
      by_cases g1 : (t.lots.length : Int) + md ≤ 8
      · by_cases g2 : ((t.lots.length : Int) + md) * h ≤ 24
        · have ml : opD .Mod (.int x) (.int (t.there.length : Int)) = .ok (.val (.int (x % (t.there.length : Int)))) := opD_mod (by omega)
          have q0 := Int.emod_nonneg x (show (t.there.length : Int) ≠ 0 by omega)
          have q1 := Int.emod_lt_of_pos x (show (0 : Int) < (t.there.length : Int) by omega)
          generalize x % (t.there.length : Int) = q at *
          have hq : t.there[q.toNat]? = some (t.there[q.toNat]'(by omega)) := List.getElem?_eq_getElem _
          generalize t.there[q.toNat]'(by omega) = lot at *
          have ep := last_pop st t.there q lot q0 hq (by omega)
          have sm : small md = true := by unfold small; simp; omega
          have rM : rngL 0 md = (List.range md.toNat).map fun k : Nat => D.int k := by
            conv => lhs; rw [show md = ((md.toNat : Nat) : Int) by omega]
            exact rngL_nat _
          have hst := step_part (h := h) hg hq md0 md1 g1 g2
          have hgo' := go_snoc hgo hst
          simp -implicitDefEqProofs [ia, ja', b2, hN, hX, m5, m2, d5, c3, c3', hM, last_len, last_isL, g1, g2, mulh, ml, ep, hdl, sm, rM]
          refine for_map (fun j ss st' => (∃ s13, ss = [.val Z, .val (.int a), .val (.int m), .val (.int h), .own (ds.map ddD ++ [.tup [.str "part", .int lot, .int md]]), .val (.obj st.length), .val (.int t.lots.length), .val (.int k), .val (.int nu), .val (.int x), .val (.int 3), .val (.int md), .val (.int lot), s13, s14, s15]) ∧ st' = st ++ [.lst ((Ys.makes ⟨t.lots, t.there.eraseIdx q.toNat⟩ none [lot] j).there.map .int)]) ⟨⟨_, rfl⟩, rfl⟩ ?_ ?_
          · rintro j w ss st' hw ⟨⟨s13, rfl⟩, rfl⟩
            have hj := (List.getElem?_eq_some_iff.mp hw).1
            rw [List.length_range] at hj
            have hw' : w = j := by
              rw [List.getElem?_range hj] at hw; exact (Option.some.inj hw).symm
            subst hw'
            have e1 := (makes_len ⟨t.lots, t.there.eraseIdx q.toNat⟩ none [lot] w)
            have e2 : (t.there.eraseIdx q.toNat).length ≤ 8 := by rw [List.length_eraseIdx]; split <;> omega
            dsimp only at e1
            have e3 := last_app st (Ys.makes ⟨t.lots, t.there.eraseIdx q.toNat⟩ none [lot] w).there ((t.lots.length : Int) + w) (by omega)
            have e4 : (Ys.makes ⟨t.lots, t.there.eraseIdx q.toNat⟩ none [lot] (w + 1)).there = (Ys.makes ⟨t.lots, t.there.eraseIdx q.toNat⟩ none [lot] w).there ++ [(t.lots.length : Int) + w] := by
              show (Ys.makes ⟨t.lots, t.there.eraseIdx q.toNat⟩ none [lot] w).there ++ [((Ys.makes ⟨t.lots, t.there.eraseIdx q.toNat⟩ none [lot] w).lots.length : Int)] = _
              rw [e1.1]; rfl
            rw [e4]
            generalize (Ys.makes ⟨t.lots, t.there.eraseIdx q.toNat⟩ none [lot] w).there = th at *
            simp -implicitDefEqProofs [last_isL, e3]
          · rintro ss st' ⟨⟨s13, rfl⟩, rfl⟩
            rw [List.length_range]
            have e1 := (makes_len ⟨t.lots, t.there.eraseIdx q.toNat⟩ none [lot] md.toNat).1
            dsimp only at e1
            have e5 : (t.lots.length : Int) + md = ((Ys.makes ⟨t.lots, t.there.eraseIdx q.toNat⟩ none [lot] md.toNat).lots.length : Int) := by rw [e1]; omega
            generalize (Ys.makes ⟨t.lots, t.there.eraseIdx q.toNat⟩ none [lot] md.toNat) = u at *
            simp -implicitDefEqProofs [e5]
            exact ⟨ds ++ [Dd.part lot md], u, _, _, _, _, _, _, _, _, _, hgo', dok_snoc hok (show Dd.ok (.part lot md) from trivial), by simp; omega, by rw [List.map_append]; rfl, rfl⟩
        · simp -implicitDefEqProofs [ia, ja', b2, hN, hX, m5, m2, d5, c3, c3', hM, last_len, last_isL, g1, g2, mulh]
          exact ⟨ds, t, _, _, _, _, _, _, _, _, _, hgo, hok, by omega, rfl, rfl⟩
      · simp -implicitDefEqProofs [ia, ja', b2, hN, hX, m5, m2, d5, c3, c3', hM, last_len, last_isL, g1, mulh]
        exact ⟨ds, t, _, _, _, _, _, _, _, _, _, hgo, hok, by omega, rfl, rfl⟩
    · have el : ¬ (nu % 5 = 3 ∧ 0 < t.there.length) := c3
      by_cases g1 : (t.lots.length : Int) + 1 ≤ 8
      · by_cases g2 : ((t.lots.length : Int) + 1) * h ≤ 24
        · by_cases c4 : nu % 5 = 4 ∧ 1 < t.there.length
          · obtain ⟨c4, c4'⟩ := c4
            have c4i : (1 : Int) < (t.there.length : Int) := by omega
            have ml : opD .Mod (.int (nu / 5)) (.int ((t.there.length : Int) - 1)) = .ok (.val (.int (nu / 5 % ((t.there.length : Int) - 1)))) := opD_mod (by omega)
            have q0 := Int.emod_nonneg (nu / 5) (show ((t.there.length : Int) - 1) ≠ 0 by omega)
            have q1 := Int.emod_lt_of_pos (nu / 5) (show (0 : Int) < (t.there.length : Int) - 1 by omega)
            generalize nu / 5 % ((t.there.length : Int) - 1) = q at *
            have sm : small (2 + q) = true := by unfold small; simp; omega
            have rM : rngL 0 (2 + q) = (List.range (2 + q).toNat).map fun k : Nat => D.int k := by
              conv => lhs; rw [show 2 + q = (((2 + q).toNat : Nat) : Int) by omega]
              exact rngL_nat _
            simp -implicitDefEqProofs [ia, ja', b2, hN, hX, m5, m2, d5, last_len, last_isL, mulh, c4, c4', c4i, g1, g2, ml, sm, rM]
            refine for_map (fun j ss st' => ∃ (ls : List Int) (u : Ys) (s13 : S), ls.length = j ∧ t.useAll ls = some u ∧ ss = [.val Z, .val (.int a), .val (.int m), .val (.int h), .own (ds.map ddD), .val (.obj st.length), .val (.int t.lots.length), .val (.int k), .val (.int nu), .val (.int x), .val (.int 4), .val (.int 1), s12, s13, .val (.int (2 + q)), .own (ls.map .int)] ∧ st' = st ++ [.lst (u.there.map .int)]) ⟨[], t, _, rfl, rfl, rfl, rfl⟩ ?_ ?_
            · rintro j w ss st' hw ⟨ls, u, s13, hl, hu, rfl, rfl⟩
              have hj := (List.getElem?_eq_some_iff.mp hw).1
              rw [List.length_range] at hj
              have hw' : w = j := by
                rw [List.getElem?_range hj] at hw; exact (Option.some.inj hw).symm
              subst hw'
              have hul := useAll_len hu
              have hug := hg.useAll hu
              have dj : opD .FloorDiv (.int x) (.int ((w : Int) + 1)) = .ok (.val (.int (x / ((w : Int) + 1)))) := opD_divS (k := 100) (by omega) (Sz.of_lt (n := 1000) (by omega) (by omega) (by decide)) (by omega)
              have mj : ∀ y : Int, opD .Mod (.int y) (.int (u.there.length : Int)) = .ok (.val (.int (y % (u.there.length : Int)))) := fun y => opD_mod (by omega)
              have p0 := Int.emod_nonneg (x / ((w : Int) + 1)) (show (u.there.length : Int) ≠ 0 by omega)
              have p1 := Int.emod_lt_of_pos (x / ((w : Int) + 1)) (show (0 : Int) < (u.there.length : Int) by omega)
              generalize x / ((w : Int) + 1) = y at *
              have mj' := mj y
              generalize y % (u.there.length : Int) = p at *
              have hp : u.there[p.toNat]? = some (u.there[p.toNat]'(by omega)) := List.getElem?_eq_getElem _
              generalize u.there[p.toNat]'(by omega) = lot at *
              have ep := last_pop st u.there p lot p0 hp (by omega)
              have hll : ls.length < 16777216 := by omega
              have hnew : t.useAll (ls ++ [lot]) = some ⟨u.lots, u.there.eraseIdx p.toNat⟩ := by
                rw [useAll_app, hu]
                exact (useAll_one u lot).trans (hug.pop hp)
              simp -implicitDefEqProofs [last_len, last_isL, dj, mj', ep, hll]
              exact ⟨ls ++ [lot], by simp [hl], _, hnew, by rw [List.map_append]; rfl, rfl⟩
            · rintro ss st' ⟨ls, u, s13, hl, hu, rfl, rfl⟩
              rw [List.length_range] at hl
              have hul := useAll_len hu
              have hst := step_pour (h := h) hu (by omega) g1 g2
              have hgo' := go_snoc hgo hst
              have e3 := last_app st u.there (t.lots.length : Int) (by omega)
              have e4 : (u.make none ls).there = u.there ++ [(t.lots.length : Int)] := by
                show u.there ++ [(u.lots.length : Int)] = _
                rw [hul.1]
              have e5 : ((u.make none ls).lots.length : Int) = (t.lots.length : Int) + 1 := by unfold Ys.make; simp [hul.1]
              rw [← e4] at e3
              simp -implicitDefEqProofs [hdl, last_isL, e3]
              rw [← e5]
              exact ⟨ds ++ [Dd.pour ls], u.make none ls, _, _, _, _, _, _, _, _, _, hgo', dok_snoc hok (show Dd.ok (.pour ls) by unfold Dd.ok; omega), by simp; omega, by rw [List.map_append]; rfl, rfl⟩
          · have x1 := Int.emod_nonneg x (show h ≠ 0 by omega)
            have x2 := Int.emod_lt_of_pos x (show 0 < h by omega)
            have hst := step_bring (t := t) x1 x2 g1 g2
            have hgo' := go_snoc hgo hst
            have e3 := last_app st t.there (t.lots.length : Int) (by omega)
            have e4 : (t.make (some (x % h)) []).there = t.there ++ [(t.lots.length : Int)] := rfl
            have e5 : ((t.make (some (x % h)) []).lots.length : Int) = (t.lots.length : Int) + 1 := by unfold Ys.make; simp
            have e6 : ds.map ddD ++ [.tup [.str "bring", .int (x % h)]] = (ds ++ [Dd.bring (x % h)]).map ddD := by rw [List.map_append]; rfl
            rw [← e4] at e3
            have fin : yInv st Z a m h (i + 1) [.val Z, .val (.int a), .val (.int m), .val (.int h), .own (ds.map ddD ++ [.tup [.str "bring", .int (x % h)]]), .val (.obj st.length), .val (.int ((t.lots.length : Int) + 1)), .val (.int k), .val (.int nu), .val (.int x), .val (.int (nu % 5)), .val (.int 1), s12, s13, s14, s15] (st ++ [.lst ((t.make (some (x % h)) []).there.map .int)]) := by
              rw [e6, ← e5]
              exact ⟨ds ++ [Dd.bring (x % h)], t.make (some (x % h)) [], _, _, _, _, _, _, _, _, _, hgo', dok_snoc hok (show Dd.ok (.bring (x % h)) from trivial), by simp; omega, rfl, rfl⟩
            by_cases a3 : nu % 5 = 3
            · have a4 : t.there.length = 0 := by omega
              rw [a3] at fin
              simp -implicitDefEqProofs [ia, ja', b2, hN, hX, m5, m2, d5, last_len, last_isL, mulh, a3, a4, g1, g2, mh, hdl, e3]
              exact fin
            · by_cases a6 : nu % 5 = 4
              · have a4 : ¬ 1 < t.there.length := by omega
                have a4i : ¬ (1 : Int) < (t.there.length : Int) := by omega
                rw [a6] at fin
                simp -implicitDefEqProofs [ia, ja', b2, hN, hX, m5, m2, d5, last_len, last_isL, mulh, a6, a4, a4i, g1, g2, mh, hdl, e3]
                exact fin
              · simp -implicitDefEqProofs [ia, ja', b2, hN, hX, m5, m2, d5, last_len, last_isL, mulh, a3, a6, g1, g2, mh, hdl, e3]
                exact fin
        · by_cases a3 : nu % 5 = 3
          · have a4 : t.there.length = 0 := by omega
            simp -implicitDefEqProofs [ia, ja', b2, hN, hX, m5, m2, d5, last_len, last_isL, mulh, a3, a4, g1, g2]
            exact ⟨ds, t, _, _, _, _, _, _, _, _, _, hgo, hok, by omega, rfl, rfl⟩
          · simp -implicitDefEqProofs [ia, ja', b2, hN, hX, m5, m2, d5, last_len, last_isL, mulh, a3, g1, g2]
            exact ⟨ds, t, _, _, _, _, _, _, _, _, _, hgo, hok, by omega, rfl, rfl⟩
      · by_cases a3 : nu % 5 = 3
        · have a4 : t.there.length = 0 := by omega
          simp -implicitDefEqProofs [ia, ja', b2, hN, hX, m5, m2, d5, last_len, last_isL, mulh, a3, a4, g1]
          exact ⟨ds, t, _, _, _, _, _, _, _, _, _, hgo, hok, by omega, rfl, rfl⟩
        · simp -implicitDefEqProofs [ia, ja', b2, hN, hX, m5, m2, d5, last_len, last_isL, mulh, a3, g1]
          exact ⟨ds, t, _, _, _, _, _, _, _, _, _, hgo, hok, by omega, rfl, rfl⟩
  · rintro ss st' ⟨ds, t, s7, s8, s9, s10, s11, s12, s13, s14, s15, hgo, hok, hlen, rfl, rfl⟩
    simp -implicitDefEqProofs
    refine ⟨h, ds, ⟨t, ?_⟩, hok, rfl⟩
    unfold tally; rw [if_neg (by omega)]; exact hgo
end
end EV

set_option linter.all false
set_option autoImplicit false
set_option maxRecDepth 20000
namespace EV
open PySem (Str)
/-! EwY7: a plain walk through a yard; what is told of it. -/
theorem nodup_filter {l : List Int} (h : l.Nodup) (x : Int) : l.erase x = l.filter fun y => decide (y ≠ x) := by
  rw [List.Nodup.erase_eq_filter h]
  congr 1
  funext y
  by_cases c : y = x <;> simp [c]
theorem useAll_there : ∀ {ls : List Int} {s t : Ys}, s.Good → s.useAll ls = some t → t.there = s.there.filter fun y => !decide (y ∈ ls)
  | [], s, t, h, e => by cases e; exact (List.filter_eq_self.mpr fun _ _ => rfl).symm
  | l :: ls, s, t, h, e => by
    unfold Ys.useAll at e
    cases c : s.use l with
    | none => rw [c] at e; cases e
    | some u =>
      rw [c] at e
      have hu := h.use c
      rw [useAll_there hu e]
      have : u.there = s.there.erase l := by
        unfold Ys.use at c
        split at c
        · cases c; rfl
        · cases c
      rw [this, nodup_filter h.1, List.filter_filter]
      congr 1
      funext y
      by_cases c1 : y = l <;> by_cases c2 : y ∈ ls <;> simp [c1, c2]
theorem step_deed {h : Int} {s t : Ys} {d : Dd} (e : s.step h d = some t) : s.deed h d = some t := by
  unfold Ys.step at e
  cases c : s.deed h d with
  | none => rw [c] at e; cases e
  | some u =>
    rw [c] at e
    have e' : (if 8 < u.lots.length ∨ 24 < u.lots.length * h then none else some u) = some t := e
    split at e'
    · cases e'
    · exact e'
theorem go_take {h : Int} {s t : Ys} {ds : List Dd} (e : s.go h ds = some t) (i : Nat) : ∃ u, s.go h (ds.take i) = some u := by
  cases c : s.go h (ds.take i) with
  | none => rw [go_take_none c] at e; cases e
  | some u => exact ⟨u, rfl⟩
def lotsOfD (t : Ys) : D := .lst (t.lots.map lotD)
def thereD (t : Ys) : D := .lst ((sortI t.there).map .int)
section
variable {G : Env} {sub : Sub} {fuel : Nat}
def PLLots (g : List D → M R) : Prop := ∀ (h : Int) (ds : List Dd) (t : Ys), (∀ d ∈ ds, d.ok) → tally h ds = some t → g [yardD h ds] = .ok (.val (.tup [lotsOfD t, thereD t]))
theorem lc_filter {vs : List Nat} {e : E} {ss : List S} {l : List Int} (p : Int → Bool) (c : E) (h : ∀ x : Int, lcF G sub vs (.nm 5) (some c) e ss (.int x) = .ok (if p x then some (.int x) else none)) : lcE G sub vs (.nm 5) (some c) e ss [] (l.map D.int) = .ok ((l.filter p).map D.int) := lcE_filter p D.int fun x _ => h x
theorem ok_llots : PLLots (d__law_lots.fn.run G sub fuel) := by
  intro h ds t hok ht
  refine d_fnp (P := fun m => m = .ok (.val (.tup [lotsOfD t, thereD t]))) rfl rfl ?_
  have hgo := (tally_h ht).2.2
  unfold yardD
  simp -implicitDefEqProofs [d__law_lots, b__law_lots, startS]
  refine for_fn (fun i s => ∃ (u : Ys) (s3 s4 s5 : S), Ys.e.go h (ds.take i) = some u ∧ s = [.val (.tup [.int h, .tup (ds.map ddD)]), .own (u.lots.map lotD), .own (u.there.map .int), s3, s4, s5]) ⟨Ys.e, _, _, _, rfl, rfl⟩ ?_ ?_
  · rintro i d s hx ⟨u, s3, s4, s5, hu, rfl⟩
    have hm := List.mem_of_getElem? hx
    obtain ⟨v, hv⟩ := go_take hgo (i + 1)
    have e1 := go_step (h := h) (s := Ys.e) hx
    rw [hu] at e1
    have e2 : u.step h d = some v := by rw [← hv, e1]; rfl
    have e3 := step_deed e2
    have hug : u.Good := good_e.go hu
    have hk := go_ok hu (Nat.le_refl _) (by decide)
    have hk2 : u.there.length ≤ 8 := Nat.le_trans hk.1 hk.2
    have l1 : u.lots.length < 16777216 := by omega
    have l2 : u.there.length < 16777216 := by omega
    have l3 : u.there.length ≤ 16777216 := by omega
    refine Exists.imp (fun s' hs => ⟨hs.1, v, hs.2.choose, hs.2.choose_spec.choose, hs.2.choose_spec.choose_spec.choose, hv, hs.2.choose_spec.choose_spec.choose_spec⟩) (?_ : ∃ s', _ ∧ ∃ s3 s4 s5, s' = [.val (.tup [.int h, .tup (ds.map ddD)]), .own (v.lots.map lotD), .own (v.there.map .int), s3, s4, s5])
    generalize D.tup (ds.map ddD) = Y at *
    cases d with
    | junk n => cases e3
    | bring x =>
      rw [deed_bring] at e3
      split at e3
      · cases e3
      · cases e3
        refine ⟨_, ?_, .val (.tup [.str "bring", .int x]), s4, s5, rfl⟩
        simp -implicitDefEqProofs [ddD, l1, l2, Ys.make, lotD, oD]
    | pour ls =>
      rw [deed_pour] at e3
      split at e3
      · cases e3
      · cases c : u.useAll ls with
        | none => rw [c] at e3; cases e3
        | some w =>
          rw [c] at e3; cases e3
          have hw := useAll_len c
          have lc := lc_filter (G := G) (sub := sub) (vs := [5]) (e := .var 5) (ss := [.val (.tup [.int h, Y]), .own (u.lots.map lotD), .own (u.there.map .int), .val (ddD (.pour ls)), s4, s5]) (l := u.there) (fun y => !decide (y ∈ ls)) (.cmp .NotIn (.var 5) (.ix (.var 3) (.k (.int 1)))) (fun x => by
            have := notin_intsT ls x
            by_cases cx : x ∈ ls <;> simp -implicitDefEqProofs [lcF, wipe, ddD, this, cx])
          rw [← useAll_there hug c] at lc
          have l4 : w.there.length < 16777216 := by omega
          refine ⟨_, ?_, .val (.tup [.str "pour", .tup (ls.map .int)]), s4, s5, rfl⟩
          unfold ddD at lc
          simp -implicitDefEqProofs [ddD, l1, l3, lc, l4, Ys.make, lotD, oD, hw.1]
    | part l m =>
      rw [deed_part] at e3
      split at e3
      · cases e3
      · rename_i hm2
        cases c : u.use l with
        | none => rw [c] at e3; cases e3
        | some w =>
          rw [c] at e3; cases e3
          have hw := use_len c
          have lc := lc_filter (G := G) (sub := sub) (vs := [5]) (e := .var 5) (ss := [.val (.tup [.int h, Y]), .own (u.lots.map lotD), .own (u.there.map .int), .val (ddD (.part l m)), s4, s5]) (l := u.there) (fun y => decide (y ≠ l)) (.cmp .NotEq (.var 5) (.ix (.var 3) (.k (.int 1)))) (fun x => by
            by_cases cx : x = l <;> simp -implicitDefEqProofs [lcF, wipe, ddD, cx])
          have hwt : w.there = u.there.erase l := by
            unfold Ys.use at c
            split at c
            · cases c; rfl
            · cases c
          rw [← nodup_filter hug.1, ← hwt] at lc
          have sm : small m = true := by unfold small; simp; omega
          have r1 : rngL 0 m = (List.range m.toNat).map fun k : Nat => D.int k := by
            conv => lhs; rw [show m = ((m.toNat : Nat) : Int) by omega]
            exact rngL_nat _
          unfold ddD at lc
          simp -implicitDefEqProofs [ddD, l3, lc, sm, r1]
          refine for_fn (Q := fun f => ∃ s', f = .nx s' ∧ ∃ s3 s4 s5, s' = [.val (.tup [.int h, Y]), .own ((w.makes none [l] m.toNat).lots.map lotD), .own ((w.makes none [l] m.toNat).there.map .int), s3, s4, s5]) (fun j s => ∃ s4, s = [.val (.tup [.int h, Y]), .own ((w.makes none [l] j).lots.map lotD), .own ((w.makes none [l] j).there.map .int), .val (.tup [.str "part", .int l, .int m]), s4, s5]) ⟨s4, by rw [← hw.1]; rfl⟩ ?_ ?_
          · rintro j k s hk3 ⟨s4, rfl⟩
            have hj := (List.getElem?_eq_some_iff.mp hk3).1
            rw [List.length_range] at hj
            have h2 := makes_len w none [l] j
            have l5 : (w.makes none [l] j).lots.length < 16777216 := by rw [h2.1, hw.1]; omega
            have l6 : (w.makes none [l] j).there.length < 16777216 := by rw [h2.2]; omega
            refine ⟨_, ?_, .val (.int k), rfl⟩
            show _ = F.nx [_, .own (((w.makes none [l] j).make none [l]).lots.map lotD), .own (((w.makes none [l] j).make none [l]).there.map .int), _, _, _]
            generalize w.makes none [l] j = z at *
            simp -implicitDefEqProofs [l5, l6, Ys.make, lotD, oD]
          · rintro s ⟨s4, rfl⟩
            rw [List.length_range]
            exact ⟨_, rfl, _, _, _, rfl⟩
  · rintro s ⟨u, s3, s4, s5, hu, rfl⟩
    rw [List.take_length, hgo] at hu
    cases hu
    simp -implicitDefEqProofs [lotsOfD, thereD]
def PLMissing (g : List D → M R) : Prop := ∀ (h : Int) (ds : List Dd) (t : Ys) (lot x : Int), (∀ d ∈ ds, d.ok) → tally h ds = some t → g [yardD h ds, .int lot, .int x] = .ok (.val (.bl (decide (lot < 0 ∨ (t.lots.length : Int) ≤ lot ∨ x < 0 ∨ h ≤ x))))
theorem ok_lmissing (h151 : Has G 151 PUnknown) (s44 : sub 4 4 = some true) (s40 : sub 4 0 = some true) (s41 : sub 4 1 = some false) : PLMissing (d__law_missing.fn.run G sub fuel) := by
  obtain ⟨k, i1, j⟩ := h151
  intro h ds t lot x hok ht
  rw [d_run rfl rfl]
  have e := j h ds t lot x hok ht
  generalize yardD h ds = Y at *
  by_cases c : lot < 0 ∨ (t.lots.length : Int) ≤ lot ∨ x < 0 ∨ h ≤ x
  · rw [if_pos c] at e
    rw [decide_eq_true c]
    funext st
    simp -implicitDefEqProofs [d__law_missing, b__law_missing, startS, i1, e, anyO, s44, s40, s41]
  · rw [if_neg c] at e
    rw [decide_eq_false c]
    funext st
    simp -implicitDefEqProofs [d__law_missing, b__law_missing, startS, i1, e, anyO, s44, s40, s41]
def PLRefY (g : List D → M R) : Prop := ∀ (h : Int) (ds : List Dd), (∀ d ∈ ds, d.ok) → g [yardD h ds] = .ok (.val (.bl (tally h ds).isNone))
theorem ok_lrefY (h150 : Has G 150 PChkYard) (s11 : sub 1 1 = some true) (s10 : sub 1 0 = some true) (s14 : sub 1 4 = some false) : PLRefY (d__law_refused_v9.fn.run G sub fuel) := by
  obtain ⟨k, i1, j⟩ := h150
  intro h ds hok
  rw [d_run rfl rfl]
  have e := j h ds hok
  generalize yardD h ds = Y at *
  funext st
  cases c : tally h ds with
  | none =>
    rw [c] at e
    simp -implicitDefEqProofs [d__law_refused_v9, b__law_refused_v9, startS, i1, e, anyO, s11, s10, s14]
  | some t =>
    rw [c] at e
    simp -implicitDefEqProofs [d__law_refused_v9, b__law_refused_v9, startS, i1, e]
end
end EV

set_option linter.all false
set_option autoImplicit false
set_option maxRecDepth 20000
namespace EV
open PySem (Str)
/-! EwY8: a thing is equal to itself; steps in a list of statements; deeds that are not allowed. -/
mutual
theorem eqD_refl : ∀ (d : D), (∀ n, d ≠ .obj n) → (∀ n, wf n d = false) ∨ eqD d d = true
  | .non, _ => .inr (by rw [eqD])
  | .bl b, _ => .inr (by rw [eqD]; simp)
  | .int i, _ => .inr (by rw [eqD]; simp)
  | .str s, _ => .inr (by rw [eqD]; simp)
  | .tup xs, _ => by
    rcases eqDs_refl xs with h | h
    · exact .inl fun n => by cases n with
        | zero => rfl
        | succ n => exact h n
    · exact .inr (by rw [eqD]; exact h)
  | .lst xs, _ => by
    rcases eqDs_refl xs with h | h
    · exact .inl fun n => by cases n with
        | zero => rfl
        | succ n => exact h n
    · exact .inr (by rw [eqD]; exact h)
  | .scr xs, _ => .inl fun n => by cases n <;> rfl
  | .obj n, h => absurd rfl (h n)
theorem eqDs_refl : ∀ (xs : List D), (∀ n, xs.all (wf n) = false) ∨ eqDs xs xs = true
  | [] => .inr (by rw [eqDs])
  | x :: xs => by
    by_cases hx : ∃ n, x = .obj n
    · obtain ⟨n, rfl⟩ := hx
      exact .inl fun n => by rw [List.all_cons]; cases n <;> rfl
    · rcases eqD_refl x (fun n hn => hx ⟨n, hn⟩) with h | h
      · exact .inl fun n => by rw [List.all_cons, h]; rfl
      · rcases eqDs_refl xs with h2 | h2
        · exact .inl fun n => by rw [List.all_cons, h2, Bool.and_false]
        · exact .inr (by rw [eqDs, h, h2]; rfl)
end
theorem eqD_self {d : D} {n : Nat} (h : wf n d = true) : eqD d d = true := by
  rcases eqD_refl d (by rintro m rfl; cases n <;> cases h) with h1 | h1
  · rw [h1 n] at h; cases h
  · exact h1
theorem deep_self {d : D} (h : wf 60 d = true) (b : Bool) : deepM d d b = .ok (.val (.bl b)) := by
  unfold deepM; rw [h]; rfl
theorem cmp_self {d : D} (h : wf 60 d = true) : cmpD .NotEq d d = .ok (.val (.bl false)) := by
  rw [cmp_ne, deep_self h, eqD_self h]; rfl
theorem wf_lot (n : Nat) (p : Option Int × List Int) : wf (n + 2) (lotD p) = true := by
  unfold lotD
  show (wf (n + 1) (oD p.1) && (wf (n + 1) (.tup (p.2.map .int)) && true)) = true
  rw [wf_intsT]
  cases p.1 <;> rfl
theorem wf_lots (t : Ys) : wf 60 (lotsOfD t) = true := by
  show (t.lots.map lotD).all (wf 59) = true
  rw [List.all_map, List.all_eq_true]; intro p _; exact wf_lot 57 p
theorem wf_there (t : Ys) : wf 60 (thereD t) = true := wf_intsY _ 59
theorem evTs_split {G : Env} {sub : Sub} {fuel : Nat} (n : Nat) (b : List T) (ss : List S) : evTs G sub fuel b ss = (evTs G sub fuel (b.take n) ss).seq (evTs G sub fuel (b.drop n)) := by
  induction n generalizing b ss with
  | zero => rw [List.take_zero, List.drop_zero, evTs_nil, seq_nx]
  | succ n ih =>
    cases b with
    | nil => rw [List.take_nil, List.drop_nil, evTs_nil, seq_nx, evTs_nil]
    | cons t b =>
      rw [List.take_succ_cons, List.drop_succ_cons, evTs_cons, evTs_cons, seq_seq]
      congr 1
      funext s
      exact ih b s
/-! ### deeds that are not allowed -/
def BadY (h : Int) (t : Ys) (d : Dd) : Prop := t.deed h d = none
theorem BadY.tally {h : Int} {t : Ys} {d : Dd} {ds : List Dd} (b : BadY h t d) (ht : tally h ds = some t) : tally h (ds ++ [d]) = none := by
  rw [tally_snoc, ht]
  show t.step h d = none
  unfold Ys.step
  rw [show t.deed h d = none from b]; rfl
theorem use_none {t : Ys} {l : Int} (h : l ∉ t.there) : t.use l = none := if_neg h
theorem bad_part {h : Int} {t : Ys} {l m : Int} (hl : l ∉ t.there) : BadY h t (.part l m) := by
  unfold BadY; rw [deed_part, use_none hl]; split <;> rfl
theorem bad_partm {h : Int} {t : Ys} {l m : Int} (hl : m < 2 ∨ 3 < m) : BadY h t (.part l m) := by
  unfold BadY; rw [deed_part, if_pos hl]
theorem bad_pour1 {h : Int} {t : Ys} {ls : List Int} (hl : ls.length < 2) : BadY h t (.pour ls) := by
  unfold BadY; rw [deed_pour, if_pos hl]
theorem bad_pour {h : Int} {t : Ys} {ls : List Int} (hl : t.useAll ls = none) : BadY h t (.pour ls) := by
  unfold BadY; rw [deed_pour, hl]; split <;> rfl
theorem useAll_2 {t : Ys} {a b : Int} (h : a ∉ t.there ∨ b ∉ t.there.erase a) : t.useAll [a, b] = none := by
  unfold Ys.useAll Ys.use
  by_cases c : a ∈ t.there
  · have h' : b ∉ t.there.erase a := by rcases h with h | h; exact absurd c h; exact h
    rw [if_pos c]
    show Ys.useAll ⟨t.lots, t.there.erase a⟩ [b] = none
    unfold Ys.useAll Ys.use
    rw [if_neg h']; rfl
  · rw [if_neg c]; rfl
theorem go_len {h : Int} : ∀ {ds : List Dd} {s t : Ys}, s.go h ds = some t → s.lots.length + ds.length ≤ t.lots.length
  | [], s, t, e => by cases e; exact Nat.le_refl _
  | d :: ds, s, t, e => by
    rw [go_cons] at e
    cases c : s.step h d with
    | none => rw [c] at e; cases e
    | some u =>
      rw [c] at e
      have h1 := go_len (s := u) e
      have h2 := step_deed c
      have h3 : s.lots.length + 1 ≤ u.lots.length := by
        cases d with
        | bring x =>
          rw [deed_bring] at h2
          split at h2
          · cases h2
          · cases h2; unfold Ys.make; simp
        | pour ls =>
          rw [deed_pour] at h2
          split at h2
          · cases h2
          · cases cc : s.useAll ls with
            | none => rw [cc] at h2; cases h2
            | some w => rw [cc] at h2; cases h2; unfold Ys.make; simp [(useAll_len cc).1]
        | part l m =>
          rw [deed_part] at h2
          split at h2
          · cases h2
          · cases cc : s.use l with
            | none => rw [cc] at h2; cases h2
            | some w =>
              rw [cc] at h2; cases h2
              have h4 := (makes_len w none [l] m.toNat).1
              have h5 := (use_len cc).1
              show s.lots.length + 1 ≤ (w.makes none [l] m.toNat).lots.length
              rw [h4, h5]; omega
        | junk n => cases h2
      rw [List.length_cons]; omega
theorem tally_len {h : Int} {ds : List Dd} {t : Ys} (e : tally h ds = some t) : ds.length ≤ 8 := by
  have h1 := go_len (tally_h e).2.2
  have h2 := (tally_sz e).1
  have : Ys.e.lots.length = 0 := rfl
  omega
/-- the bad ones -/
def bads0 (h n : Int) : List Dd := [.bring h, .bring (-1), .pour [0], .pour [], .pour [n, 0], .part n 2, .part (-1) 2, .part 0 1, .part 0 4, .junk 0, .junk 1, .junk 2, .junk 3, .junk 4]
def bads1 (a : Int) : List Dd := [.pour [a, a], .part a 1, .part a 4, .pour [a]]
def bads2 (a u : Int) : List Dd := [.part u 2, .pour [a, u]]
theorem bads0_bad {h : Int} {t : Ys} (hg : t.Good) : ∀ d ∈ bads0 h t.lots.length, BadY h t d := by
  intro d hd
  have hn : (t.lots.length : Int) ∉ t.there := fun hm => by have := (hg.2 _ hm).2; omega
  have hm1 : (-1 : Int) ∉ t.there := fun hm => by have := (hg.2 _ hm).1; omega
  simp only [bads0, List.mem_cons, List.not_mem_nil, or_false] at hd
  rcases hd with rfl | rfl | rfl | rfl | rfl | rfl | rfl | rfl | rfl | rfl | rfl | rfl | rfl | rfl
  · unfold BadY; rw [deed_bring, if_pos (by omega)]
  · unfold BadY; rw [deed_bring, if_pos (by omega)]
  · exact bad_pour1 (by decide)
  · exact bad_pour1 (by decide)
  · exact bad_pour (useAll_2 (.inl hn))
  · exact bad_part hn
  · exact bad_part hm1
  · exact bad_partm (by omega)
  · exact bad_partm (by omega)
  all_goals rfl
theorem bads1_bad {h : Int} {t : Ys} {a : Int} (hg : t.Good) : ∀ d ∈ bads1 a, BadY h t d := by
  intro d hd
  simp only [bads1, List.mem_cons, List.not_mem_nil, or_false] at hd
  rcases hd with rfl | rfl | rfl | rfl
  · exact bad_pour (useAll_2 (.inr fun hm => (List.Nodup.mem_erase_iff hg.1).mp hm |>.1 rfl))
  · exact bad_partm (by omega)
  · exact bad_partm (by omega)
  · exact bad_pour1 (by simp)
theorem bads2_bad {h : Int} {t : Ys} {a u : Int} (hu : u ∉ t.there) : ∀ d ∈ bads2 a u, BadY h t d := by
  intro d hd
  simp only [bads2, List.mem_cons, List.not_mem_nil, or_false] at hd
  rcases hd with rfl | rfl
  · exact bad_part hu
  · exact bad_pour (useAll_2 (.inr fun hm => hu (List.mem_of_mem_erase hm)))
theorem bads_ok0 (h n : Int) : ∀ d ∈ bads0 h n, d.ok := by
  intro d hd
  simp only [bads0, List.mem_cons, List.not_mem_nil, or_false] at hd
  rcases hd with rfl | rfl | rfl | rfl | rfl | rfl | rfl | rfl | rfl | rfl | rfl | rfl | rfl | rfl <;> first | trivial | (unfold Dd.ok; simp)
theorem bads_ok1 (a : Int) : ∀ d ∈ bads1 a, d.ok := by
  intro d hd
  simp only [bads1, List.mem_cons, List.not_mem_nil, or_false] at hd
  rcases hd with rfl | rfl | rfl | rfl <;> first | trivial | (unfold Dd.ok; simp)
theorem bads_ok2 (a u : Int) : ∀ d ∈ bads2 a u, d.ok := by
  intro d hd
  simp only [bads2, List.mem_cons, List.not_mem_nil, or_false] at hd
  rcases hd with rfl | rfl <;> first | trivial | (unfold Dd.ok; simp)
theorem sort_mem (l : List Int) (x : Int) : x ∈ sortI l ↔ x ∈ l := by
  unfold sortI; exact List.mem_mergeSort
theorem sort_len (l : List Int) : (sortI l).length = l.length := by
  unfold sortI; exact List.length_mergeSort l
end EV

set_option linter.all false
set_option autoImplicit false
set_option maxRecDepth 20000
namespace EV
open PySem (Str)
/-! K30P: the law. -/
def Tr (o : Out R) : Prop := ∃ st, o = .ok (.val (.bl true)) st
section
variable {G : Env} {sub : Sub} {fuel : Nat}
theorem k30_few (h150 : Has G 150 PChkYard) (h7 : Has G 7 PLRefY) (a b c d e f g h i j k : S) (st : Store) : En Tr (evTs G sub fuel (b_law_k30.drop 23) [a, b, c, d, e, f, g, h, i, j, k] st) := by
  obtain ⟨k1, i1, j1⟩ := h150
  obtain ⟨k7, i7, j7⟩ := h7
  have ok8 : ∀ n, ∀ d ∈ List.replicate n (Dd.bring 0), d.ok := fun n d hd => by rw [List.eq_of_mem_replicate hd]; trivial
  have t1 : (tally 3 (List.replicate 8 (Dd.bring 0))).isNone = false := by decide +kernel
  have t2 : (tally 3 (List.replicate 8 (Dd.bring 0) ++ [Dd.bring 0])).isNone = true := by decide +kernel
  have t3 : (tally 4 (List.replicate 6 (Dd.bring 0))).isNone = false := by decide +kernel
  have t4 : (tally 4 (List.replicate 7 (Dd.bring 0))).isNone = true := by decide +kernel
  have t5 : (tally 3 (List.replicate 7 (Dd.bring 0) ++ [Dd.part 0 2])).isNone = true := by decide +kernel
  have t6 : (tally 0 []).isNone = true := by decide +kernel
  have t7 : (tally 5 []).isNone = true := by decide +kernel
  have c1 := j1 3 _ (ok8 8)
  cases hx : tally 3 (List.replicate 8 (Dd.bring 0)) with
  | none => rw [hx] at t1; cases t1
  | some u =>
  rw [hx] at c1
  have c2 := j7 3 _ (dok_snoc (ok8 8) (show Dd.ok (.bring 0) from trivial))
  have c3 := j1 4 _ (ok8 6)
  cases hy : tally 4 (List.replicate 6 (Dd.bring 0)) with
  | none => rw [hy] at t3; cases t3
  | some v =>
  rw [hy] at c3
  have c4 := j7 4 _ (ok8 7)
  have c5 := j7 3 _ (dok_snoc (ok8 7) (show Dd.ok (.part 0 2) from trivial))
  have c6 := j7 0 [] (fun d hd => by cases hd)
  have c7 := j7 5 [] (fun d hd => by cases hd)
  rw [t2] at c2; rw [t4] at c4; rw [t5] at c5; rw [t6] at c6; rw [t7] at c7
  have e1 : opD .Mult (.lst [.tup [.str "bring", .int 0]]) (.int 8) = .ok (.own ((List.replicate 8 (Dd.bring 0)).map ddD)) := by
    simp [opD, guardM, ddD, line]
  have e2 : opD .Add (.lst ((List.replicate 8 (Dd.bring 0)).map ddD)) (.lst [.tup [.str "bring", .int 0]]) = .ok (.own ((List.replicate 8 (Dd.bring 0) ++ [Dd.bring 0]).map ddD)) := by
    simp [opD, guardM, ddD, line]
  have e3 : slD (.lst ((List.replicate 8 (Dd.bring 0)).map ddD)) none (some 6) = .ok (.own ((List.replicate 6 (Dd.bring 0)).map ddD)) := rfl
  have e4 : slD (.lst ((List.replicate 8 (Dd.bring 0)).map ddD)) none (some 7) = .ok (.own ((List.replicate 7 (Dd.bring 0)).map ddD)) := rfl
  have e5 : opD .Add (.lst ((List.replicate 7 (Dd.bring 0)).map ddD)) (.lst [.tup [.str "part", .int 0, .int 2]]) = .ok (.own ((List.replicate 7 (Dd.bring 0) ++ [Dd.part 0 2]).map ddD)) := by
    simp [opD, guardM, ddD, line]
  have e6 : deepM (.tup [.int 4, .int 8]) (.tup [.int 4, .int 8]) (eqD (.tup [.int 4, .int 8]) (.tup [.int 4, .int 8])) = .ok (.val (.bl true)) := by
    rw [deep_self rfl, eqD_self (n := 60) rfl]
  unfold yardD at *
  generalize (List.replicate 8 (Dd.bring 0)).map ddD = L8 at *
  generalize (List.replicate 8 (Dd.bring 0) ++ [Dd.bring 0]).map ddD = L9 at *
  generalize (List.replicate 6 (Dd.bring 0)).map ddD = L6 at *
  generalize (List.replicate 7 (Dd.bring 0)).map ddD = L7 at *
  generalize (List.replicate 7 (Dd.bring 0) ++ [Dd.part 0 2]).map ddD = L8' at *
  have c6' : k7 [.tup [.int 0, .tup []]] = .ok (.val (.bl true)) := c6
  have c7' : k7 [.tup [.int 5, .tup []]] = .ok (.val (.bl true)) := c7
  simp -implicitDefEqProofs [b_law_k30, e1, e2, e3, e4, e5, e6, i1, i7, c1, c2, c3, c4, c5, c6', c7']
  exact ⟨st, rfl⟩
theorem opD_addL' {a b : List D} (h : a.length + b.length ≤ 16777216) : opD .Add (.lst a) (.lst b) = .ok (.own (a ++ b)) := by
  unfold opD guardM; dsimp only; rw [if_pos (decide_eq_true h)]
theorem opD_addT' {a b : List D} (h : a.length + b.length ≤ 16777216) : opD .Add (.tup a) (.tup b) = .ok (.val (.tup (a ++ b))) := by
  unfold opD guardM; dsimp only; rw [if_pos (decide_eq_true h)]
def k30S (Sc Rw : D) (h : Int) (ds : List Dd) (t : Ys) (d e f g i k : S) : List S := [.val Sc, .val Rw, .val (yardD h ds), d, e, f, g, i, .val (lotsOfD t), .val (thereD t), k]
theorem k30_bad (h150 : Has G 150 PChkYard) (h7 : Has G 7 PLRefY) (Sc Rw : D) (h : Int) (ds : List Dd) (t : Ys) (bs : List Dd) (d e g i k : S) (st : Store) (hok : ∀ d ∈ ds, d.ok) (ht : tally h ds = some t) (hb : ∀ d ∈ bs, d.ok) (hbad : ∀ d ∈ bs, BadY h t d) :
    En Tr (evTs G sub fuel (b_law_k30.drop 21) (k30S Sc Rw h ds t d e (.own (bs.map ddD)) g i k) st) := by
  have tl := fun (e f g i k : S) => k30_few (sub := sub) (fuel := fuel) h150 h7 (.val Sc) (.val Rw) (.val (yardD h ds)) d e f g i (.val (lotsOfD t)) (.val (thereD t)) k st
  rw [evTs_split 2]
  rw [List.drop_drop]
  generalize hB : b_law_k30.drop (21 + 2) = B at *
  obtain ⟨k7, i7, j7⟩ := h7
  have hl := tally_len ht
  unfold k30S
  simp -implicitDefEqProofs [b_law_k30]
  refine for_map (fun j s st' => st' = st ∧ ∃ x, s = [.val Sc, .val Rw, .val (yardD h ds), d, e, .val (.lst (bs.map ddD)), x, i, .val (lotsOfD t), .val (thereD t), k]) ⟨rfl, _, rfl⟩ ?_ ?_
  · rintro j b s st' hj ⟨rfl, x, rfl⟩
    have hm := List.mem_of_getElem? hj
    have e1 := j7 h _ (dok_snoc hok (hb b hm))
    rw [(hbad b hm).tally ht] at e1
    have e2 : opD .Add (.tup (ds.map ddD)) (.tup [ddD b]) = .ok (.val (.tup ((ds ++ [b]).map ddD))) := by
      rw [opD_addT' (by rw [List.length_map]; simp; omega), List.map_append]; rfl
    have e1' : k7 [.tup [.int h, .tup ((ds ++ [b]).map ddD)]] = .ok (.val (.bl true)) := e1
    generalize (ds ++ [b]).map ddD = L at *
    generalize hY : D.tup (ds.map ddD) = Y at *
    simp -implicitDefEqProofs [yardD, hY, e2, i7, e1']
  · rintro s st' ⟨rfl, x, rfl⟩
    exact tl _ _ _ _ _
theorem k30_mid (h150 : Has G 150 PChkYard) (h7 : Has G 7 PLRefY) (Sc Rw : D) (h : Int) (ds : List Dd) (t : Ys) (d e f g i k : S) (st : Store) (hok : ∀ d ∈ ds, d.ok) (ht : tally h ds = some t) :
    En Tr (evTs G sub fuel (b_law_k30.drop 16) (k30S Sc Rw h ds t d e f g i k) st) := by
  have tl := fun (bs : List Dd) (d e g i k : S) (hb : ∀ d ∈ bs, d.ok) (hbad : ∀ d ∈ bs, BadY h t d) => k30_bad (sub := sub) (fuel := fuel) h150 h7 Sc Rw h ds t bs d e g i k st hok ht hb hbad
  have hg := tally_good ht
  have hsz := tally_sz ht
  rw [evTs_split 5]
  rw [List.drop_drop]
  generalize hB : b_law_k30.drop (16 + 5) = B at *
  have hl := tally_len ht
  have hm := sort_mem t.there
  have hn := sort_len t.there
  unfold k30S at *
  unfold thereD lotsOfD at *
  have hlen : (t.lots.map lotD).length = t.lots.length := List.length_map _
  have ax0 := bads0_bad (h := h) hg
  have ao0 := bads_ok0 h t.lots.length
  have sm : small (t.lots.length : Int) = true := by unfold small; simp; omega
  have r1 : rngL 0 (t.lots.length : Int) = (List.range t.lots.length).map fun k : Nat => D.int k := rngL_nat _
  generalize t.lots.map lotD = Lt at *
  generalize sortI t.there = w at *
  have lc : ∀ ss : List S, ss[9]? = some (.val (.lst (w.map .int))) → 3 < ss.length → lcE G sub [3] (.nm 3) (some (.cmp .NotIn (.var 3) (.var 9))) (.var 3) ss [] ((List.range t.lots.length).map fun k : Nat => D.int k) = .ok (((List.range t.lots.length).filter fun k : Nat => !decide ((k : Int) ∈ w)).map fun k : Nat => D.int k) := fun ss h9 h3 => by
    refine lcE_filter (fun k : Nat => !decide ((k : Int) ∈ w)) (fun k : Nat => D.int k) fun x _ => ?_
    have h9' : ((ss.set 3 .emp).set 3 (.val (.int x)))[9]? = some (.val (.lst (w.map .int))) := by
      rw [List.getElem?_set_ne (by omega), List.getElem?_set_ne (by omega)]; exact h9
    have h3' : ((ss.set 3 .emp).set 3 (.val (.int x)))[3]? = some (.val (.int x)) := by
      rw [List.getElem?_set_self (by simpa using h3)]
    have h4 : 3 < (ss.set 3 .emp).length := by simpa using h3
    have hn := notin_ints w x
    generalize hs : (ss.set 3 .emp) = ss1 at *
    by_cases cx : (x : Int) ∈ w <;> simp -implicitDefEqProofs [lcF, wipe, hs, h4, h9', h3', hn, cx]
  have hl1 : t.lots.length ≤ 16777216 := by omega
  have hum : ∀ x ∈ (List.range t.lots.length).filter (fun k : Nat => !decide ((k : Int) ∈ w)), (x : Int) ∉ t.there := fun x hx => by
    have := (List.mem_filter.mp hx).2
    rw [← hm]; simpa using this
  generalize hU : (List.range t.lots.length).filter (fun k : Nat => !decide ((k : Int) ∈ w)) = us at *
  have lc1 := lc [.val Sc, .val Rw, .val (.tup [.int h, .tup (ds.map ddD)]), d, e, f, g, i, .val (.lst Lt), .val (.lst (w.map .int)), k] rfl (by simp)
  unfold yardD at *
  generalize D.tup (ds.map ddD) = Y at *
  have addB : ∀ a b : List D, a.length + b.length ≤ 1000 → opD .Add (.lst a) (.lst b) = .ok (.own (a ++ b)) := fun a b hh => opD_addL' (by omega)
  cases w with
  | nil =>
    have tl0 := tl (bads0 h t.lots.length) d (.own (us.map fun k : Nat => D.int k)) g i k ao0 ax0
    rw [List.map_nil] at lc1
    simp -implicitDefEqProofs [b_law_k30, hlen, sm, r1, hl1, opD_addL']
    rw [lc1]
    rcases us with _ | ⟨u, us⟩
    · simp -implicitDefEqProofs [opD_addL', hlen]
      exact tl0
    · have z : (0 : Int) < (us.length : Int) + 1 := by omega
      have z1 : True := trivial
      simp -implicitDefEqProofs [opD_addL', z, z1, hlen]
      exact tl0
  | cons a w =>
    have ax1 := bads1_bad (h := h) (a := a) hg
    have ao1 := bads_ok1 a
    have z1 : (0 : Int) < (w.length : Int) + 1 := by omega
    rw [List.map_cons] at lc1
    simp -implicitDefEqProofs [b_law_k30, hlen, sm, r1, hl1, opD_addL', z1]
    rw [lc1]
    rcases us with _ | ⟨u, us⟩
    · have tl0 := tl (bads0 h t.lots.length ++ bads1 a) d (.own (([] : List Nat).map fun k : Nat => D.int k)) g i k (fun d hd => (List.mem_append.mp hd).elim (ao0 d) (ao1 d)) (fun d hd => (List.mem_append.mp hd).elim (ax0 d) (ax1 d))
      simp -implicitDefEqProofs [opD_addL', z1, hlen]
      exact tl0
    · have hu := hum u List.mem_cons_self
      have ax2 := bads2_bad (h := h) (a := a) hu
      have ao2 := bads_ok2 a u
      have tl0 := tl (bads0 h t.lots.length ++ bads1 a ++ bads2 a u) d (.own ((u :: us).map fun k : Nat => D.int k)) g i k (fun d hd => (List.mem_append.mp hd).elim (fun hd => (List.mem_append.mp hd).elim (ao0 d) (ao1 d)) (ao2 d)) (fun d hd => (List.mem_append.mp hd).elim (fun hd => (List.mem_append.mp hd).elim (ax0 d) (ax1 d)) (ax2 d))
      have z : (0 : Int) < (us.length : Int) + 1 := by omega
      simp -implicitDefEqProofs [opD_addL', z, z1, hlen]
      exact tl0
end
end EV

set_option linter.all false
set_option autoImplicit false
set_option maxRecDepth 20000
namespace EV
open PySem (Str)
/-! K30Q: the law. -/
section
variable {G : Env} {sub : Sub} {fuel : Nat}
theorem k30_loops (h150 : Has G 150 PChkYard) (h151 : Has G 151 PUnknown) (h163 : Has G 163 PLMissing) (h7 : Has G 7 PLRefY) (Sc Rw : D) (h : Int) (ds : List Dd) (t : Ys) (d e f g i k : S) (st : Store) (hok : ∀ d ∈ ds, d.ok) (ht : tally h ds = some t) :
    En Tr (evTs G sub fuel (b_law_k30.drop 13) (k30S Sc Rw h ds t d e f g i k) st) := by
  have tl := fun (d e f g i k : S) => k30_mid (sub := sub) (fuel := fuel) h150 h7 Sc Rw h ds t d e f g i k st hok ht
  rw [evTs_split 3]
  rw [List.drop_drop]
  generalize hB : b_law_k30.drop (13 + 3) = B at *
  obtain ⟨k1, i1, j1⟩ := h151
  obtain ⟨k2, i2, j2⟩ := h163
  have hsz := tally_sz ht
  have hh := tally_h ht
  have u1 := fun (l x : Int) => j1 h ds t l x hok ht
  have u2 := fun (l x : Int) => j2 h ds t l x hok ht
  have hlen : (t.lots.map lotD).length = t.lots.length := List.length_map _
  have sm : small (t.lots.length : Int) = true := by unfold small; simp; omega
  have r1 : rngL 0 (t.lots.length : Int) = (List.range t.lots.length).map fun k : Nat => D.int k := rngL_nat _
  have smh : small h = true := by unfold small; simp; omega
  have rh : rngL 0 h = (List.range h.toNat).map fun k : Nat => D.int k := by
    conv => lhs; rw [show h = ((h.toNat : Nat) : Int) by omega]
    exact rngL_nat _
  have mulh : ∀ y : Int, opD .Mult (.int y) (.int h) = .ok (.val (.int (y * h))) := fun y => opD_mulR (by omega)
  unfold k30S lotsOfD at *
  generalize t.lots.map lotD = Lt at *
  generalize thereD t = Th at *
  have m1 : k2 [yardD h ds, .int t.lots.length, .int 0] = .ok (.val (.bl true)) := by rw [u2, decide_eq_true (by omega)]
  have m2 : k2 [yardD h ds, .int (-1), .int 0] = .ok (.val (.bl true)) := by rw [u2, decide_eq_true (by omega)]
  have hY : yardD h ds = .tup [.int h, .tup (ds.map ddD)] := rfl
  have m3 : ∀ l : Int, k2 [yardD h ds, .int l, .int h] = .ok (.val (.bl true)) := fun l => by rw [u2, decide_eq_true (by omega)]
  have m4 : ∀ l : Int, k2 [yardD h ds, .int l, .int (-1)] = .ok (.val (.bl true)) := fun l => by rw [u2, decide_eq_true (by omega)]
  have ixY : ixD (yardD h ds) (.int 0) = .ok (.val (.int h)) := by rw [hY]; simp
  generalize yardD h ds = Y at *
  simp -implicitDefEqProofs [b_law_k30, hlen, sm, r1]
  refine for_map (fun j s st' => st' = st ∧ ∃ d k, s = [.val Sc, .val Rw, .val Y, d, e, f, g, i, .val (.lst Lt), .val Th, k]) ⟨rfl, _, _, rfl⟩ ?_ ?_
  · rintro j l s st' hj ⟨rfl, d, k, rfl⟩
    have hl := List.mem_of_getElem? hj
    rw [List.mem_range] at hl
    simp -implicitDefEqProofs [ixY, smh, rh]
    refine for_map (fun j s st'' => st'' = st' ∧ ∃ k, s = [.val Sc, .val Rw, .val Y, .val (.int l), e, f, g, i, .val (.lst Lt), .val Th, k]) ⟨rfl, _, rfl⟩ ?_ ?_
    · rintro j x s st'' hj ⟨rfl, k, rfl⟩
      have hx := List.mem_of_getElem? hj
      rw [List.mem_range] at hx
      have e1 := u1 l x
      rw [if_neg (by omega)] at e1
      simp -implicitDefEqProofs [i1, e1, ixY, mulh]
    · rintro s st'' ⟨rfl, k, rfl⟩
      simp -implicitDefEqProofs [i2, m3, m4, ixY]
  · rintro s st' ⟨rfl, d, k, rfl⟩
    simp -implicitDefEqProofs [i2, m1, m2, hlen]
    exact tl _ _ _ _ _ _
theorem ok_law_k30 (h37 : Has G 37 PRowY) (h152 : Has G 152 PLYard) (h153 : Has G 153 PLLots) (h148 : Has G 148 PLotsOf) (h154 : Has G 154 PPresent) (h158 : Has G 158 PWidth) (h150 : Has G 150 PChkYard) (h151 : Has G 151 PUnknown) (h163 : Has G 163 PLMissing) (h7 : Has G 7 PLRefY) : PTrueS (d_law_k30.fn.run G sub fuel) := by
  intro ns hns
  refine d_en (P := Tr) rfl rfl ?_
  show En Tr (evTs G sub fuel b_law_k30 _ _)
  have tl := fun (Sc Rw : D) (h : Int) (ds : List Dd) (t : Ys) (d e f g i k : S) (st : Store) => k30_loops (sub := sub) (fuel := fuel) h150 h151 h163 h7 Sc Rw h ds t d e f g i k st
  rw [evTs_split 13]
  generalize hB : b_law_k30.drop 13 = B at *
  obtain ⟨k1, i1, j1⟩ := h37
  obtain ⟨k2, i2, j2⟩ := h152
  obtain ⟨k3, i3, j3⟩ := h153
  obtain ⟨k4, i4, j4⟩ := h148
  obtain ⟨k5, i5, j5⟩ := h154
  obtain ⟨k6, i6, j6⟩ := h158
  obtain ⟨k7, i7, j7⟩ := h150
  obtain ⟨zs, hz, e1⟩ := j1 ns hns
  obtain ⟨h, ds, t, ht, hok, e2⟩ := j2 [] zs 0 8 hz (by omega) (by omega)
  have e3 := j3 h ds t hok ht
  have e4 := j4 h ds hok
  have e5 := j5 h ds hok
  have e6 := j6 h ds hok
  have e7 := j7 h ds hok
  rw [ht] at e4 e5 e6 e7
  dsimp only at e4 e5 e6 e7
  have tl' := fun (Sc Rw : D) (d e f g i k : S) (st : Store) => tl Sc Rw h ds t d e f g i k st hok ht
  have hh := tally_h ht
  have hsz := tally_sz ht
  have mulh : ∀ y : Int, opD .Mult (.int y) (.int h) = .ok (.val (.int (y * h))) := fun y => opD_mulR (by omega)
  have c1 : deepM (lotsOfD t) (lotsOfD t) (eqD (lotsOfD t) (lotsOfD t)) = .ok (.val (.bl true)) := by rw [deep_self (wf_lots t), eqD_self (wf_lots t)]
  have c2 : deepM (thereD t) (thereD t) (eqD (thereD t) (thereD t)) = .ok (.val (.bl true)) := by rw [deep_self (wf_there t), eqD_self (wf_there t)]
  have c3 : deepM (lotsOfD t) (lotsOfD t) (!eqD (lotsOfD t) (lotsOfD t)) = .ok (.val (.bl false)) := by rw [deep_self (wf_lots t), eqD_self (wf_lots t)]; rfl
  have c4 : deepM (thereD t) (thereD t) (!eqD (thereD t) (thereD t)) = .ok (.val (.bl false)) := by rw [deep_self (wf_there t), eqD_self (wf_there t)]; rfl
  have hlen : (t.lots.map lotD).length = t.lots.length := List.length_map _
  have hlen2 : ((sortI t.there).map D.int).length = t.there.length := by rw [List.length_map, sort_len]
  have ixY : ixD (yardD h ds) (.int 0) = .ok (.val (.int h)) := by unfold yardD; simp
  unfold k30S at *
  unfold lotsOfD thereD at *
  generalize t.lots.map lotD = Lt at *
  generalize (sortI t.there).map D.int = Th at *
  generalize yardD h ds = Y at *
  have w1 : updL (.obj 0) (fun xs => if xs.length < 16777216 then some (xs ++ [D.non]) else none) [.lst Lt] = .ok () [.lst (Lt ++ [.non])] := by
    rw [updL_at (xs := Lt) rfl (if_pos (by omega))]; rfl
  have w2 : ∀ o : Ob, updL (.obj 1) (fun xs => if xs.length < 16777216 then some (xs ++ [D.int 9]) else none) [o, .lst Th] = .ok () [o, .lst (Th ++ [.int 9])] := fun o => by
    rw [updL_at (xs := Th) rfl (if_pos (by omega))]; rfl
  have w3 : ∀ (xs : List D), isLst (.obj 0) [.lst xs] = .ok () [.lst xs] := fun xs => rfl
  have w4 : ∀ (o : Ob) (xs : List D), isLst (.obj 1) [o, .lst xs] = .ok () [o, .lst xs] := fun o xs => rfl
  simp -implicitDefEqProofs [b_law_k30, d_law_k30, startS, i1, e1, i2, e2, i3, e3, i4, e4, i5, e5, i6, e6, i7, e7, c1, c2, c3, c4, w1, w2, w3, w4, hlen, mulh, ixY]
  exact tl' _ _ _ _ _ _ _ _ _
end
end EV

set_option Elab.async false
set_option linter.all false
set_option maxRecDepth 100000
set_option maxHeartbeats 16000000
namespace EV
open PySem PySem.Spec PyProof.Rows L2
def top (i : Nat) : Stmt := PySem.Challenge.pw_kerbside_k30_yards_checked.main.body.getD i (.Pass ⟨0, 0, 0, 0⟩)
def lawSt : Stc where
  N := []
  fn := [(7, ("_law_refused" : Str), 1), (163, ("_law_missing" : Str), 3), (151, ("unknown" : Str), 3), (158, ("width_of" : Str), 1), (154, ("present" : Str), 1), (148, ("lots_of" : Str), 1), (150, ("check_yard" : Str), 1), (147, ("tally_of" : Str), 1), (153, ("_law_lots" : Str), 1), (152, ("_law_yard" : Str), 3), (149, ("_law_at" : Str), 2), (37, ("_law_row" : Str), 1)]
  gls := [("MAX_PARTS", .int 3), ("MAX_HOUSEHOLDS", .int 4), ("MAX_UNKNOWNS", .int 24), ("MAX_LOTS", .int 8)]
  blts := ["abs", "int", "isinstance", "len", "range", "sorted", "tuple"]
  exs := [(0, "KerbError"), (1, "NotAllowed"), (4, "Missing")]
  cs := [(0, "Tally", ["households", "lots", "there"])]
  ms := [(283, 0, "deed"), (281, 0, "use"), (280, 0, "make"), (282, 0, "__init__")]
abbrev lawDs : List (Def × Stmt) := [(d__law_refused_v9, top 21), (d__law_missing, top 22), (d_unknown, top 15), (d_width_of, top 14), (d_present, top 13), (d_lots_of, top 12), (d_check_yard, top 11), (d_tally_of, top 10), (d_Tally_deed, inClass (top 9) 3), (d_Tally_use, inClass (top 9) 2), (d_Tally_make, inClass (top 9) 1), (d_Tally___init__, inClass (top 9) 0), (d__law_lots, top 20), (d__law_yard, top 19), (d__law_at, top 18), (d__law_row_v4, top 17)]
def lawSub : Sub := fun c k => if [0, 1, 4].contains c && [0, 1, 4].contains k then some (k == 0 || c == k) else none
def S16 : List Def := []
def S15 : List Def := d__law_row_v4 :: S16
def S14 : List Def := d__law_at :: S15
def S13 : List Def := d__law_yard :: S14
def S12 : List Def := d__law_lots :: S13
def S11 : List Def := d_Tally___init__ :: S12
def S10 : List Def := d_Tally_make :: S11
def S9 : List Def := d_Tally_use :: S10
def S8 : List Def := d_Tally_deed :: S9
def S7 : List Def := d_tally_of :: S8
def S6 : List Def := d_check_yard :: S7
def S5 : List Def := d_lots_of :: S6
def S4 : List Def := d_present :: S5
def S3 : List Def := d_width_of :: S4
def S2 : List Def := d_unknown :: S3
def S1 : List Def := d__law_missing :: S2
def S0 : List Def := d__law_refused_v9 :: S1
set_option maxHeartbeats 64000000 in
theorem pure_law (ns : List Int) (h : ns.length ≤ 63) : ∃ st, d_law_k30.fn.run (envOf lawSub 1000000 (lawDs.map (·.1))) lawSub 1000000 [scrOf ns] [] = .ok (.val (.bl true)) st := by
  rw [show lawDs.map (·.1) = S0 from rfl]
  have h37_15 : Has (envOf lawSub 1000000 S15) 37 _ := has_top (d := d__law_row_v4) (ds := S16) rfl (ok_rowY)
  have h37_14 : Has (envOf lawSub 1000000 S14) 37 _ := has_up rfl h37_15
  have h149_14 : Has (envOf lawSub 1000000 S14) 149 _ := has_top (d := d__law_at) (ds := S15) rfl (ok_rowAt)
  have h37_13 : Has (envOf lawSub 1000000 S13) 37 _ := has_up rfl h37_14
  have h152_13 : Has (envOf lawSub 1000000 S13) 152 _ := has_top (d := d__law_yard) (ds := S14) rfl (ok_lyard h149_14)
  have h37_12 : Has (envOf lawSub 1000000 S12) 37 _ := has_up rfl h37_13
  have h152_12 : Has (envOf lawSub 1000000 S12) 152 _ := has_up rfl h152_13
  have h153_12 : Has (envOf lawSub 1000000 S12) 153 _ := has_top (d := d__law_lots) (ds := S13) rfl (ok_llots)
  have h37_11 : Has (envOf lawSub 1000000 S11) 37 _ := has_up rfl h37_12
  have h152_11 : Has (envOf lawSub 1000000 S11) 152 _ := has_up rfl h152_12
  have h153_11 : Has (envOf lawSub 1000000 S11) 153 _ := has_up rfl h153_12
  have h282_11 : Has (envOf lawSub 1000000 S11) 282 _ := has_top (d := d_Tally___init__) (ds := S12) rfl (ok_init)
  have h37_10 : Has (envOf lawSub 1000000 S10) 37 _ := has_up rfl h37_11
  have h152_10 : Has (envOf lawSub 1000000 S10) 152 _ := has_up rfl h152_11
  have h153_10 : Has (envOf lawSub 1000000 S10) 153 _ := has_up rfl h153_11
  have h282_10 : Has (envOf lawSub 1000000 S10) 282 _ := has_up rfl h282_11
  have h280_10 : Has (envOf lawSub 1000000 S10) 280 _ := has_top (d := d_Tally_make) (ds := S11) rfl (ok_make)
  have h37_9 : Has (envOf lawSub 1000000 S9) 37 _ := has_up rfl h37_10
  have h152_9 : Has (envOf lawSub 1000000 S9) 152 _ := has_up rfl h152_10
  have h153_9 : Has (envOf lawSub 1000000 S9) 153 _ := has_up rfl h153_10
  have h282_9 : Has (envOf lawSub 1000000 S9) 282 _ := has_up rfl h282_10
  have h280_9 : Has (envOf lawSub 1000000 S9) 280 _ := has_up rfl h280_10
  have h281_9 : Has (envOf lawSub 1000000 S9) 281 _ := has_top (d := d_Tally_use) (ds := S10) rfl (ok_use)
  have h37_8 : Has (envOf lawSub 1000000 S8) 37 _ := has_up rfl h37_9
  have h152_8 : Has (envOf lawSub 1000000 S8) 152 _ := has_up rfl h152_9
  have h153_8 : Has (envOf lawSub 1000000 S8) 153 _ := has_up rfl h153_9
  have h282_8 : Has (envOf lawSub 1000000 S8) 282 _ := has_up rfl h282_9
  have h283_8 : Has (envOf lawSub 1000000 S8) 283 _ := has_top (d := d_Tally_deed) (ds := S9) rfl (ok_deed h280_9 h281_9)
  have h37_7 : Has (envOf lawSub 1000000 S7) 37 _ := has_up rfl h37_8
  have h152_7 : Has (envOf lawSub 1000000 S7) 152 _ := has_up rfl h152_8
  have h153_7 : Has (envOf lawSub 1000000 S7) 153 _ := has_up rfl h153_8
  have h147_7 : Has (envOf lawSub 1000000 S7) 147 _ := has_top (d := d_tally_of) (ds := S8) rfl (ok_tally h282_8 h283_8)
  have h37_6 : Has (envOf lawSub 1000000 S6) 37 _ := has_up rfl h37_7
  have h152_6 : Has (envOf lawSub 1000000 S6) 152 _ := has_up rfl h152_7
  have h153_6 : Has (envOf lawSub 1000000 S6) 153 _ := has_up rfl h153_7
  have h147_6 : Has (envOf lawSub 1000000 S6) 147 _ := has_up rfl h147_7
  have h150_6 : Has (envOf lawSub 1000000 S6) 150 _ := has_top (d := d_check_yard) (ds := S7) rfl (ok_chk_yard h147_7)
  have h37_5 : Has (envOf lawSub 1000000 S5) 37 _ := has_up rfl h37_6
  have h152_5 : Has (envOf lawSub 1000000 S5) 152 _ := has_up rfl h152_6
  have h153_5 : Has (envOf lawSub 1000000 S5) 153 _ := has_up rfl h153_6
  have h147_5 : Has (envOf lawSub 1000000 S5) 147 _ := has_up rfl h147_6
  have h150_5 : Has (envOf lawSub 1000000 S5) 150 _ := has_up rfl h150_6
  have h148_5 : Has (envOf lawSub 1000000 S5) 148 _ := has_top (d := d_lots_of) (ds := S6) rfl (ok_lots_of h147_6)
  have h37_4 : Has (envOf lawSub 1000000 S4) 37 _ := has_up rfl h37_5
  have h152_4 : Has (envOf lawSub 1000000 S4) 152 _ := has_up rfl h152_5
  have h153_4 : Has (envOf lawSub 1000000 S4) 153 _ := has_up rfl h153_5
  have h150_4 : Has (envOf lawSub 1000000 S4) 150 _ := has_up rfl h150_5
  have h148_4 : Has (envOf lawSub 1000000 S4) 148 _ := has_up rfl h148_5
  have h154_4 : Has (envOf lawSub 1000000 S4) 154 _ := has_top (d := d_present) (ds := S5) rfl (ok_present h147_5)
  have h37_3 : Has (envOf lawSub 1000000 S3) 37 _ := has_up rfl h37_4
  have h152_3 : Has (envOf lawSub 1000000 S3) 152 _ := has_up rfl h152_4
  have h153_3 : Has (envOf lawSub 1000000 S3) 153 _ := has_up rfl h153_4
  have h150_3 : Has (envOf lawSub 1000000 S3) 150 _ := has_up rfl h150_4
  have h148_3 : Has (envOf lawSub 1000000 S3) 148 _ := has_up rfl h148_4
  have h154_3 : Has (envOf lawSub 1000000 S3) 154 _ := has_up rfl h154_4
  have h158_3 : Has (envOf lawSub 1000000 S3) 158 _ := has_top (d := d_width_of) (ds := S4) rfl (ok_width h148_4)
  have h37_2 : Has (envOf lawSub 1000000 S2) 37 _ := has_up rfl h37_3
  have h152_2 : Has (envOf lawSub 1000000 S2) 152 _ := has_up rfl h152_3
  have h153_2 : Has (envOf lawSub 1000000 S2) 153 _ := has_up rfl h153_3
  have h150_2 : Has (envOf lawSub 1000000 S2) 150 _ := has_up rfl h150_3
  have h148_2 : Has (envOf lawSub 1000000 S2) 148 _ := has_up rfl h148_3
  have h154_2 : Has (envOf lawSub 1000000 S2) 154 _ := has_up rfl h154_3
  have h158_2 : Has (envOf lawSub 1000000 S2) 158 _ := has_up rfl h158_3
  have h151_2 : Has (envOf lawSub 1000000 S2) 151 _ := has_top (d := d_unknown) (ds := S3) rfl (ok_unknown h148_3)
  have h37_1 : Has (envOf lawSub 1000000 S1) 37 _ := has_up rfl h37_2
  have h152_1 : Has (envOf lawSub 1000000 S1) 152 _ := has_up rfl h152_2
  have h153_1 : Has (envOf lawSub 1000000 S1) 153 _ := has_up rfl h153_2
  have h150_1 : Has (envOf lawSub 1000000 S1) 150 _ := has_up rfl h150_2
  have h148_1 : Has (envOf lawSub 1000000 S1) 148 _ := has_up rfl h148_2
  have h154_1 : Has (envOf lawSub 1000000 S1) 154 _ := has_up rfl h154_2
  have h158_1 : Has (envOf lawSub 1000000 S1) 158 _ := has_up rfl h158_2
  have h151_1 : Has (envOf lawSub 1000000 S1) 151 _ := has_up rfl h151_2
  have h163_1 : Has (envOf lawSub 1000000 S1) 163 _ := has_top (d := d__law_missing) (ds := S2) rfl (ok_lmissing h151_2 rfl rfl rfl)
  have h37_0 : Has (envOf lawSub 1000000 S0) 37 _ := has_up rfl h37_1
  have h152_0 : Has (envOf lawSub 1000000 S0) 152 _ := has_up rfl h152_1
  have h153_0 : Has (envOf lawSub 1000000 S0) 153 _ := has_up rfl h153_1
  have h150_0 : Has (envOf lawSub 1000000 S0) 150 _ := has_up rfl h150_1
  have h148_0 : Has (envOf lawSub 1000000 S0) 148 _ := has_up rfl h148_1
  have h154_0 : Has (envOf lawSub 1000000 S0) 154 _ := has_up rfl h154_1
  have h158_0 : Has (envOf lawSub 1000000 S0) 158 _ := has_up rfl h158_1
  have h151_0 : Has (envOf lawSub 1000000 S0) 151 _ := has_up rfl h151_1
  have h163_0 : Has (envOf lawSub 1000000 S0) 163 _ := has_up rfl h163_1
  have h7_0 : Has (envOf lawSub 1000000 S0) 7 _ := has_top (d := d__law_refused_v9) (ds := S1) rfl (ok_lrefY h150_1 rfl rfl rfl)
  exact ok_law_k30 (G := envOf lawSub 1000000 S0) (sub := lawSub) (fuel := 1000000) h37_0 h152_0 h153_0 h148_0 h154_0 h158_0 h150_0 h151_0 h163_0 h7_0 ns h
theorem chk_ds : lawDs.all (fun d => chkD lawSt d.1 d.2 && chkId lawSt d.1) = true := by decide +kernel
theorem chk_law : chkD lawSt d_law_k30 (top 23) = true := by decide +kernel
section
theorem all_mk {l : PySem.W.OpenLaw} {w : World} {K : PySem.W.Frag} {h : Heap} {mg : Str → Option Value} {fa : Addr} {fuel : Nat} (X : K.In h) (G : h.Ns mainGlobals mg) (hfa : mg "law" = some (.ref fa))
    {f0 f1 f2 f3 f4 f5 f6 f7 f8 f9 f10 f11 f12 f13 f14 f15 f16 C0 C1 C2 D0 : Addr} {od0 an0 od1 an1 od2 an2 od3 an3 od4 an4 od5 an5 od6 an6 od7 an7 od8 an8 od9 an9 od10 an10 od11 an11 od12 an12 od13 an13 od14 an14 od15 an15 od16 an16 : Option Addr} {sl0 sl1 sl2 sl3 sl4 sl5 sl6 sl7 sl8 sl9 sl10 sl11 sl12 sl13 sl14 sl15 sl16 : Array (Option Value)} {oc0 kV0 dc0 pm0 cd0 ct0 oc1 kV1 dc1 pm1 cd1 ct1 oc2 kV2 dc2 pm2 cd2 ct2 oc3 kV3 dc3 pm3 cd3 ct3 oc4 kV4 dc4 pm4 cd4 ct4 oc5 kV5 dc5 pm5 cd5 ct5 oc6 kV6 dc6 pm6 cd6 ct6 oc7 kV7 dc7 pm7 cd7 ct7 oc8 kV8 dc8 pm8 cd8 ct8 oc9 kV9 dc9 pm9 cd9 ct9 oc10 kV10 dc10 pm10 cd10 ct10 oc11 kV11 dc11 pm11 cd11 ct11 oc12 kV12 dc12 pm12 cd12 ct12 oc13 kV13 dc13 pm13 cd13 ct13 oc14 kV14 dc14 pm14 cd14 ct14 oc15 kV15 dc15 pm15 cd15 ct15 oc16 kV16 dc16 pm16 cd16 ct16 : Value} {gt0 : Tok} {gt1 : Tok} {gt2 : Tok} {gt3 : Tok}
    (a0 : PySem.W.nsIn K mainGlobals "law" = some (some (.ref f0)))
    (l0 : K.lookup f0 = some ⟨oc0, od0, .func (PySem.W.fnOf "law" "law" (defArgs (top 23)) (defBody (top 23)) (defScope (top 23)) .none kV0 dc0 pm0 an0 cd0 ct0), sl0⟩)
    (c0 : PySem.W.codeIn K cd0 "law" = true)
    (k0 : PySem.W.keepIn K (.ref f0) = true)
    (a1 : PySem.W.nsIn K mainGlobals "_law_refused" = some (some (.ref f1)))
    (l1 : K.lookup f1 = some ⟨oc1, od1, .func (PySem.W.fnOf "_law_refused" "_law_refused" (defArgs (top 21)) (defBody (top 21)) (defScope (top 21)) .none kV1 dc1 pm1 an1 cd1 ct1), sl1⟩)
    (c1 : PySem.W.codeIn K cd1 "_law_refused" = true)
    (k1 : PySem.W.keepIn K (.ref f1) = true)
    (a2 : PySem.W.nsIn K mainGlobals "_law_missing" = some (some (.ref f2)))
    (l2 : K.lookup f2 = some ⟨oc2, od2, .func (PySem.W.fnOf "_law_missing" "_law_missing" (defArgs (top 22)) (defBody (top 22)) (defScope (top 22)) .none kV2 dc2 pm2 an2 cd2 ct2), sl2⟩)
    (c2 : PySem.W.codeIn K cd2 "_law_missing" = true)
    (k2 : PySem.W.keepIn K (.ref f2) = true)
    (a3 : PySem.W.nsIn K mainGlobals "unknown" = some (some (.ref f3)))
    (l3 : K.lookup f3 = some ⟨oc3, od3, .func (PySem.W.fnOf "unknown" "unknown" (defArgs (top 15)) (defBody (top 15)) (defScope (top 15)) .none kV3 dc3 pm3 an3 cd3 ct3), sl3⟩)
    (c3 : PySem.W.codeIn K cd3 "unknown" = true)
    (k3 : PySem.W.keepIn K (.ref f3) = true)
    (a4 : PySem.W.nsIn K mainGlobals "width_of" = some (some (.ref f4)))
    (l4 : K.lookup f4 = some ⟨oc4, od4, .func (PySem.W.fnOf "width_of" "width_of" (defArgs (top 14)) (defBody (top 14)) (defScope (top 14)) .none kV4 dc4 pm4 an4 cd4 ct4), sl4⟩)
    (c4 : PySem.W.codeIn K cd4 "width_of" = true)
    (k4 : PySem.W.keepIn K (.ref f4) = true)
    (a5 : PySem.W.nsIn K mainGlobals "present" = some (some (.ref f5)))
    (l5 : K.lookup f5 = some ⟨oc5, od5, .func (PySem.W.fnOf "present" "present" (defArgs (top 13)) (defBody (top 13)) (defScope (top 13)) .none kV5 dc5 pm5 an5 cd5 ct5), sl5⟩)
    (c5 : PySem.W.codeIn K cd5 "present" = true)
    (k5 : PySem.W.keepIn K (.ref f5) = true)
    (a6 : PySem.W.nsIn K mainGlobals "lots_of" = some (some (.ref f6)))
    (l6 : K.lookup f6 = some ⟨oc6, od6, .func (PySem.W.fnOf "lots_of" "lots_of" (defArgs (top 12)) (defBody (top 12)) (defScope (top 12)) .none kV6 dc6 pm6 an6 cd6 ct6), sl6⟩)
    (c6 : PySem.W.codeIn K cd6 "lots_of" = true)
    (k6 : PySem.W.keepIn K (.ref f6) = true)
    (a7 : PySem.W.nsIn K mainGlobals "check_yard" = some (some (.ref f7)))
    (l7 : K.lookup f7 = some ⟨oc7, od7, .func (PySem.W.fnOf "check_yard" "check_yard" (defArgs (top 11)) (defBody (top 11)) (defScope (top 11)) .none kV7 dc7 pm7 an7 cd7 ct7), sl7⟩)
    (c7 : PySem.W.codeIn K cd7 "check_yard" = true)
    (k7 : PySem.W.keepIn K (.ref f7) = true)
    (a8 : PySem.W.nsIn K mainGlobals "tally_of" = some (some (.ref f8)))
    (l8 : K.lookup f8 = some ⟨oc8, od8, .func (PySem.W.fnOf "tally_of" "tally_of" (defArgs (top 10)) (defBody (top 10)) (defScope (top 10)) .none kV8 dc8 pm8 an8 cd8 ct8), sl8⟩)
    (c8 : PySem.W.codeIn K cd8 "tally_of" = true)
    (k8 : PySem.W.keepIn K (.ref f8) = true)
    (l9 : K.lookup f9 = some ⟨oc9, od9, .func (PySem.W.fnOf "deed" "Tally.deed" (defArgs (inClass (top 9) 3)) (defBody (inClass (top 9) 3)) (defScope (inClass (top 9) 3)) .none kV9 dc9 pm9 an9 cd9 ct9), sl9⟩)
    (c9 : PySem.W.codeIn K cd9 "Tally.deed" = true)
    (k9 : PySem.W.keepIn K (.ref f9) = true)
    (l10 : K.lookup f10 = some ⟨oc10, od10, .func (PySem.W.fnOf "use" "Tally.use" (defArgs (inClass (top 9) 2)) (defBody (inClass (top 9) 2)) (defScope (inClass (top 9) 2)) .none kV10 dc10 pm10 an10 cd10 ct10), sl10⟩)
    (c10 : PySem.W.codeIn K cd10 "Tally.use" = true)
    (k10 : PySem.W.keepIn K (.ref f10) = true)
    (l11 : K.lookup f11 = some ⟨oc11, od11, .func (PySem.W.fnOf "make" "Tally.make" (defArgs (inClass (top 9) 1)) (defBody (inClass (top 9) 1)) (defScope (inClass (top 9) 1)) .none kV11 dc11 pm11 an11 cd11 ct11), sl11⟩)
    (c11 : PySem.W.codeIn K cd11 "Tally.make" = true)
    (k11 : PySem.W.keepIn K (.ref f11) = true)
    (l12 : K.lookup f12 = some ⟨oc12, od12, .func (PySem.W.fnOf "__init__" "Tally.__init__" (defArgs (inClass (top 9) 0)) (defBody (inClass (top 9) 0)) (defScope (inClass (top 9) 0)) .none kV12 dc12 pm12 an12 cd12 ct12), sl12⟩)
    (c12 : PySem.W.codeIn K cd12 "Tally.__init__" = true)
    (k12 : PySem.W.keepIn K (.ref f12) = true)
    (a13 : PySem.W.nsIn K mainGlobals "_law_lots" = some (some (.ref f13)))
    (l13 : K.lookup f13 = some ⟨oc13, od13, .func (PySem.W.fnOf "_law_lots" "_law_lots" (defArgs (top 20)) (defBody (top 20)) (defScope (top 20)) .none kV13 dc13 pm13 an13 cd13 ct13), sl13⟩)
    (c13 : PySem.W.codeIn K cd13 "_law_lots" = true)
    (k13 : PySem.W.keepIn K (.ref f13) = true)
    (a14 : PySem.W.nsIn K mainGlobals "_law_yard" = some (some (.ref f14)))
    (l14 : K.lookup f14 = some ⟨oc14, od14, .func (PySem.W.fnOf "_law_yard" "_law_yard" (defArgs (top 19)) (defBody (top 19)) (defScope (top 19)) .none kV14 dc14 pm14 an14 cd14 ct14), sl14⟩)
    (c14 : PySem.W.codeIn K cd14 "_law_yard" = true)
    (k14 : PySem.W.keepIn K (.ref f14) = true)
    (a15 : PySem.W.nsIn K mainGlobals "_law_at" = some (some (.ref f15)))
    (l15 : K.lookup f15 = some ⟨oc15, od15, .func (PySem.W.fnOf "_law_at" "_law_at" (defArgs (top 18)) (defBody (top 18)) (defScope (top 18)) .none kV15 dc15 pm15 an15 cd15 ct15), sl15⟩)
    (c15 : PySem.W.codeIn K cd15 "_law_at" = true)
    (k15 : PySem.W.keepIn K (.ref f15) = true)
    (a16 : PySem.W.nsIn K mainGlobals "_law_row" = some (some (.ref f16)))
    (l16 : K.lookup f16 = some ⟨oc16, od16, .func (PySem.W.fnOf "_law_row" "_law_row" (defArgs (top 17)) (defBody (top 17)) (defScope (top 17)) .none kV16 dc16 pm16 an16 cd16 ct16), sl16⟩)
    (c16 : PySem.W.codeIn K cd16 "_law_row" = true)
    (k16 : PySem.W.keepIn K (.ref f16) = true)
    (nA0 : PySem.W.nsIn K mainGlobals "Tally" = some (some (.ref D0)))
    (nG0 : PySem.W.plainGet K D0 Str.empty = true)
    (nH0 : PySem.W.hasDictIn K D0 = true)
    (nP0 : PySem.W.plainOver K D0 = true)
    (nS0 : PySem.W.findIn K (.ref D0) "__setattr__" = some (some (.builtin "object.__setattr__")))
    (nM0 : PySem.W.makesIn K D0 = true)
    (nK0 : PySem.W.keepIn K (.ref D0) = true)
    (nF0_0 : PySem.W.findIn K (.ref D0) "households" = some none)
    (nF0_1 : PySem.W.findIn K (.ref D0) "lots" = some none)
    (nF0_2 : PySem.W.findIn K (.ref D0) "there" = some none)
    (mA9 : PySem.W.findIn K (.ref D0) "deed" = some (some (.ref f9)))
    (mF9 : PySem.W.isFn K (.ref f9) = true)
    (mA10 : PySem.W.findIn K (.ref D0) "use" = some (some (.ref f10)))
    (mF10 : PySem.W.isFn K (.ref f10) = true)
    (mA11 : PySem.W.findIn K (.ref D0) "make" = some (some (.ref f11)))
    (mF11 : PySem.W.isFn K (.ref f11) = true)
    (mA12 : PySem.W.findIn K (.ref D0) "__init__" = some (some (.ref f12)))
    (mF12 : PySem.W.isFn K (.ref f12) = true)
    (eA0 : PySem.W.nsIn K mainGlobals "KerbError" = some (some (.ref C0)))
    (eX0 : PySem.W.excIn K C0 [.type "ValueError", .type "Exception", .type "BaseException", .type "object"] "ValueError.__new__" = true)
    (eK0 : PySem.W.keepIn K (.ref C0) = true)
    (eB0 : PySem.W.subIn K (.ref C0) (.type "BaseException") = some true)
    (eT0 : PySem.W.typeIn K (.ref C0) = some (.type "type"))
    (eG0 : PySem.W.findIn K (.ref C0) "__getattribute__" = some (some (.builtin "BaseException.__getattribute__")))
    (eH0 : PySem.W.findIn K (.ref C0) "__getattr__" = some none)
    (eD0 : PySem.W.hasDictIn K C0 = true)
    (eC0 : PySem.W.findIn K (.ref C0) "__class__" = some (some (.builtin "object.__class__")))
    (eM0 : PySem.W.mroIn K C0 (.type "object") = some true)
    (eS0_0 : PySem.W.subIn K (.ref C0) (.ref C0) = some true)
    (eS0_1 : PySem.W.subIn K (.ref C0) (.ref C1) = some false)
    (eS0_2 : PySem.W.subIn K (.ref C0) (.ref C2) = some false)
    (eA1 : PySem.W.nsIn K mainGlobals "NotAllowed" = some (some (.ref C1)))
    (eX1 : PySem.W.excIn K C1 [.type "ValueError", .type "Exception", .type "BaseException", .type "object"] "ValueError.__new__" = true)
    (eK1 : PySem.W.keepIn K (.ref C1) = true)
    (eB1 : PySem.W.subIn K (.ref C1) (.type "BaseException") = some true)
    (eT1 : PySem.W.typeIn K (.ref C1) = some (.type "type"))
    (eG1 : PySem.W.findIn K (.ref C1) "__getattribute__" = some (some (.builtin "BaseException.__getattribute__")))
    (eH1 : PySem.W.findIn K (.ref C1) "__getattr__" = some none)
    (eD1 : PySem.W.hasDictIn K C1 = true)
    (eC1 : PySem.W.findIn K (.ref C1) "__class__" = some (some (.builtin "object.__class__")))
    (eM1 : PySem.W.mroIn K C1 (.type "object") = some true)
    (eS1_0 : PySem.W.subIn K (.ref C1) (.ref C0) = some true)
    (eS1_1 : PySem.W.subIn K (.ref C1) (.ref C1) = some true)
    (eS1_2 : PySem.W.subIn K (.ref C1) (.ref C2) = some false)
    (eA2 : PySem.W.nsIn K mainGlobals "Missing" = some (some (.ref C2)))
    (eX2 : PySem.W.excIn K C2 [.type "ValueError", .type "Exception", .type "BaseException", .type "object"] "ValueError.__new__" = true)
    (eK2 : PySem.W.keepIn K (.ref C2) = true)
    (eB2 : PySem.W.subIn K (.ref C2) (.type "BaseException") = some true)
    (eT2 : PySem.W.typeIn K (.ref C2) = some (.type "type"))
    (eG2 : PySem.W.findIn K (.ref C2) "__getattribute__" = some (some (.builtin "BaseException.__getattribute__")))
    (eH2 : PySem.W.findIn K (.ref C2) "__getattr__" = some none)
    (eD2 : PySem.W.hasDictIn K C2 = true)
    (eC2 : PySem.W.findIn K (.ref C2) "__class__" = some (some (.builtin "object.__class__")))
    (eM2 : PySem.W.mroIn K C2 (.type "object") = some true)
    (eS2_0 : PySem.W.subIn K (.ref C2) (.ref C0) = some true)
    (eS2_1 : PySem.W.subIn K (.ref C2) (.ref C1) = some false)
    (eS2_2 : PySem.W.subIn K (.ref C2) (.ref C2) = some true)
    (eN : PySem.W.specialIn K (.builtin "object.__class__") "__get__" = some (some (.builtin "getset_descriptor.__get__")))
    (eQ : PySem.W.takesIn K (.builtin "object.__class__") = some true)
    (z0 : PySem.W.nsIn K mainGlobals "abs" = some none)
    (z1 : PySem.W.nsIn K mainGlobals "int" = some none)
    (z2 : PySem.W.nsIn K mainGlobals "isinstance" = some none)
    (z3 : PySem.W.nsIn K mainGlobals "len" = some none)
    (z4 : PySem.W.nsIn K mainGlobals "range" = some none)
    (z5 : PySem.W.nsIn K mainGlobals "sorted" = some none)
    (z6 : PySem.W.nsIn K mainGlobals "tuple" = some none)
    (qg0 : PySem.W.nsIn K mainGlobals "MAX_PARTS" = some (some (.int 3 gt0)))
    (qg1 : PySem.W.nsIn K mainGlobals "MAX_HOUSEHOLDS" = some (some (.int 4 gt1)))
    (qg2 : PySem.W.nsIn K mainGlobals "MAX_UNKNOWNS" = some (some (.int 24 gt2)))
    (qg3 : PySem.W.nsIn K mainGlobals "MAX_LOTS" = some (some (.int 8 gt3))) :
    ∃ fd : FuncData, (∀ (s : Shared) (v : Value), BindsTo s fd ⟨[v], []⟩ [("_law_script", v)]) ∧ ∃ cls cl, ∀ base : Heap, K.In base → base.Ns mainGlobals mg → FnOk l.prog w K mg base (L2.CX l.prog w) 34 fa fd ["_law_script"] (spF K cl cls 1 (d_law_k30.fn.run (envOf lawSub fuel (lawDs.map (·.1))) lawSub fuel)) := by
  have e := hfa.symm.trans (PySem.W.mg_of X G a0)
  cases e
  let cls : Nat → Value := fun c => if c = 0 then .ref C0 else if c = 1 then .ref C1 else if c = 4 then .ref C2 else .none
  let cl : Nat → Option (Addr × List Str) := fun c => if c = 0 then some (D0, ["households", "lots", "there"]) else none
  have pf : PF K mg lawSt lawSub cls cl := by
    refine ⟨?_, ?_, ?_, ?_, ?_, ?_⟩
    · intro p hp
      simp only [lawSt, List.mem_cons, List.not_mem_nil, or_false] at hp
      rcases hp with rfl | rfl | rfl | rfl | rfl | rfl | rfl
      · exact PySem.W.mg_none_of X G z0
      · exact PySem.W.mg_none_of X G z1
      · exact PySem.W.mg_none_of X G z2
      · exact PySem.W.mg_none_of X G z3
      · exact PySem.W.mg_none_of X G z4
      · exact PySem.W.mg_none_of X G z5
      · exact PySem.W.mg_none_of X G z6
    · intro p hp
      simp only [lawSt, List.mem_cons, List.not_mem_nil, or_false] at hp
      rcases hp with rfl | rfl | rfl | rfl
      · exact ⟨_, .int 3, PySem.W.mg_of X G qg0, ⟨_, rfl⟩, fun F => repInt⟩
      · exact ⟨_, .int 4, PySem.W.mg_of X G qg1, ⟨_, rfl⟩, fun F => repInt⟩
      · exact ⟨_, .int 24, PySem.W.mg_of X G qg2, ⟨_, rfl⟩, fun F => repInt⟩
      · exact ⟨_, .int 8, PySem.W.mg_of X G qg3, ⟨_, rfl⟩, fun F => repInt⟩
    · intro p hp
      simp only [lawSt, List.mem_cons, List.not_mem_nil, or_false] at hp
      rcases hp with rfl | rfl | rfl
      · exact ⟨C0, PySem.W.mg_of X G eA0, rfl, eX0, eK0, eB0, eT0⟩
      · exact ⟨C1, PySem.W.mg_of X G eA1, rfl, eX1, eK1, eB1, eT1⟩
      · exact ⟨C2, PySem.W.mg_of X G eA2, rfl, eX2, eK2, eB2, eT2⟩
    · intro c k b hb
      unfold lawSub at hb
      split at hb
      · rename_i hc
        cases hb
        simp only [Bool.and_eq_true, List.contains_iff_mem, List.mem_cons, List.not_mem_nil, or_false] at hc
        obtain ⟨h1, h2⟩ := hc
        rcases h1 with rfl | rfl | rfl <;> rcases h2 with rfl | rfl | rfl
        · have e := errs_of eB0 eD0 eT0 eS0_0 eB0 eD0 eT0 eS0_0
          exact ⟨e.1, e.2, fun z => absurd z (by decide)⟩
        · have e := errs_of eB1 eD1 eT1 eS0_1 eB0 eD0 eT0 eS0_0
          exact ⟨e.1, e.2, fun z => absurd z (by decide)⟩
        · have e := errs_of eB2 eD2 eT2 eS0_2 eB0 eD0 eT0 eS0_0
          exact ⟨e.1, e.2, fun z => absurd z (by decide)⟩
        · have e := errs_of eB0 eD0 eT0 eS1_0 eB1 eD1 eT1 eS1_1
          exact ⟨e.1, e.2, fun z => absurd z (by decide)⟩
        · have e := errs_of eB1 eD1 eT1 eS1_1 eB1 eD1 eT1 eS1_1
          exact ⟨e.1, e.2, fun z => absurd z (by decide)⟩
        · have e := errs_of eB2 eD2 eT2 eS1_2 eB1 eD1 eT1 eS1_1
          exact ⟨e.1, e.2, fun z => absurd z (by decide)⟩
        · have e := errs_of eB0 eD0 eT0 eS2_0 eB2 eD2 eT2 eS2_2
          exact ⟨e.1, e.2, fun z => absurd z (by decide)⟩
        · have e := errs_of eB1 eD1 eT1 eS2_1 eB2 eD2 eT2 eS2_2
          exact ⟨e.1, e.2, fun z => absurd z (by decide)⟩
        · have e := errs_of eB2 eD2 eT2 eS2_2 eB2 eD2 eT2 eS2_2
          exact ⟨e.1, e.2, fun z => absurd z (by decide)⟩
      · cases hb
    · intro c k b hb
      unfold lawSub at hb
      split at hb
      · rename_i hc
        simp only [Bool.and_eq_true, List.contains_iff_mem, List.mem_cons, List.not_mem_nil, or_false] at hc
        obtain ⟨h1, h2⟩ := hc
        rcases h1 with rfl | rfl | rfl
        · exact ⟨C0, rfl, ⟨eG0, eH0, eB0, eD0, eC0, eN, eQ, eM0⟩⟩
        · exact ⟨C1, rfl, ⟨eG1, eH1, eB1, eD1, eC1, eN, eQ, eM1⟩⟩
        · exact ⟨C2, rfl, ⟨eG2, eH2, eB2, eD2, eC2, eN, eQ, eM2⟩⟩
      · cases hb
    · intro p hp
      simp only [lawSt, List.mem_cons, List.not_mem_nil, or_false] at hp
      subst hp
      exact ⟨D0, rfl, PySem.W.mg_of X G nA0, ⟨nG0, nH0, nP0, nS0⟩, (by
          intro f hf
          simp only [List.mem_cons, List.not_mem_nil, or_false] at hf
          rcases hf with rfl | rfl | rfl
          · exact nF0_0
          · exact nF0_1
          · exact nF0_2), nM0, nK0, by decide⟩
  have F0 := fun_mk (st := top 23) l0 c0 k0
  have F1 := fun_mk (st := top 21) l1 c1 k1
  have F2 := fun_mk (st := top 22) l2 c2 k2
  have F3 := fun_mk (st := top 15) l3 c3 k3
  have F4 := fun_mk (st := top 14) l4 c4 k4
  have F5 := fun_mk (st := top 13) l5 c5 k5
  have F6 := fun_mk (st := top 12) l6 c6 k6
  have F7 := fun_mk (st := top 11) l7 c7 k7
  have F8 := fun_mk (st := top 10) l8 c8 k8
  have F9 := fun_mk (st := inClass (top 9) 3) l9 c9 k9
  have F10 := fun_mk (st := inClass (top 9) 2) l10 c10 k10
  have F11 := fun_mk (st := inClass (top 9) 1) l11 c11 k11
  have F12 := fun_mk (st := inClass (top 9) 0) l12 c12 k12
  have F13 := fun_mk (st := top 20) l13 c13 k13
  have F14 := fun_mk (st := top 19) l14 c14 k14
  have F15 := fun_mk (st := top 18) l15 c15 k15
  have F16 := fun_mk (st := top 17) l16 c16 k16
  have hd : ∀ d ∈ lawDs, chkD lawSt d.1 d.2 = true ∧ chkId lawSt d.1 = true ∧ DefAt K mg cl d.1 d.2 := by
    intro d hd
    have hc := List.all_eq_true.mp chk_ds d hd
    rw [Bool.and_eq_true] at hc
    refine ⟨hc.1, hc.2, ?_⟩
    simp only [lawDs, List.mem_cons, List.not_mem_nil, or_false] at hd
    rcases hd with rfl | rfl | rfl | rfl | rfl | rfl | rfl | rfl | rfl | rfl | rfl | rfl | rfl | rfl | rfl | rfl
    · exact ⟨f1, _, (F1.binds (ps := d__law_refused_v9.ps) fun _ _ _ _ _ _ us hl => match us, hl with | [_], _ => rfl), PySem.W.mg_of X G a1, F1⟩
    · exact ⟨f2, _, (F2.binds (ps := d__law_missing.ps) fun _ _ _ _ _ _ us hl => match us, hl with | [_, _, _], _ => rfl), PySem.W.mg_of X G a2, F2⟩
    · exact ⟨f3, _, (F3.binds (ps := d_unknown.ps) fun _ _ _ _ _ _ us hl => match us, hl with | [_, _, _], _ => rfl), PySem.W.mg_of X G a3, F3⟩
    · exact ⟨f4, _, (F4.binds (ps := d_width_of.ps) fun _ _ _ _ _ _ us hl => match us, hl with | [_], _ => rfl), PySem.W.mg_of X G a4, F4⟩
    · exact ⟨f5, _, (F5.binds (ps := d_present.ps) fun _ _ _ _ _ _ us hl => match us, hl with | [_], _ => rfl), PySem.W.mg_of X G a5, F5⟩
    · exact ⟨f6, _, (F6.binds (ps := d_lots_of.ps) fun _ _ _ _ _ _ us hl => match us, hl with | [_], _ => rfl), PySem.W.mg_of X G a6, F6⟩
    · exact ⟨f7, _, (F7.binds (ps := d_check_yard.ps) fun _ _ _ _ _ _ us hl => match us, hl with | [_], _ => rfl), PySem.W.mg_of X G a7, F7⟩
    · exact ⟨f8, _, (F8.binds (ps := d_tally_of.ps) fun _ _ _ _ _ _ us hl => match us, hl with | [_], _ => rfl), PySem.W.mg_of X G a8, F8⟩
    · exact ⟨f9, _, (F9.binds (ps := d_Tally_deed.ps) fun _ _ _ _ _ _ us hl => match us, hl with | [_, _], _ => rfl), F9, D0, _, rfl, ⟨mA9, mF9, k9⟩, by decide⟩
    · exact ⟨f10, _, (F10.binds (ps := d_Tally_use.ps) fun _ _ _ _ _ _ us hl => match us, hl with | [_, _], _ => rfl), F10, D0, _, rfl, ⟨mA10, mF10, k10⟩, by decide⟩
    · exact ⟨f11, _, (F11.binds (ps := d_Tally_make.ps) fun _ _ _ _ _ _ us hl => match us, hl with | [_, _, _], _ => rfl), F11, D0, _, rfl, ⟨mA11, mF11, k11⟩, by decide⟩
    · exact ⟨f12, _, (F12.binds (ps := d_Tally___init__.ps) fun _ _ _ _ _ _ us hl => match us, hl with | [_, _], _ => rfl), F12, D0, _, rfl, ⟨mA12, mF12, k12⟩, by decide⟩
    · exact ⟨f13, _, (F13.binds (ps := d__law_lots.ps) fun _ _ _ _ _ _ us hl => match us, hl with | [_], _ => rfl), PySem.W.mg_of X G a13, F13⟩
    · exact ⟨f14, _, (F14.binds (ps := d__law_yard.ps) fun _ _ _ _ _ _ us hl => match us, hl with | [_, _, _], _ => rfl), PySem.W.mg_of X G a14, F14⟩
    · exact ⟨f15, _, (F15.binds (ps := d__law_at.ps) fun _ _ _ _ _ _ us hl => match us, hl with | [_, _], _ => rfl), PySem.W.mg_of X G a15, F15⟩
    · exact ⟨f16, _, (F16.binds (ps := d__law_row_v4.ps) fun _ _ _ _ _ _ us hl => match us, hl with | [_], _ => rfl), PySem.W.mg_of X G a16, F16⟩
  exact ⟨_, fun s v => .of_eq rfl, cls, cl, fun base _ _ => law_ok (d := d_law_k30) (ds := lawDs) pf hd chk_law F0⟩
end
/-- the law's promise -/
def lawSp (K : PySem.W.Frag) : Sp := fun vs H Q E => ∀ cls cl, spF K cl cls 1 (d_law_k30.fn.run (envOf lawSub 1000000 (lawDs.map (·.1))) lawSub 1000000) vs H Q E
theorem lawSp_of {K : PySem.W.Frag} {H : Hp} {a : Addr} {ns : List Int} (hS : SqL K H a (ns.map V.int)) (h : ∃ st, d_law_k30.fn.run (envOf lawSub 1000000 (lawDs.map (·.1))) lawSub 1000000 [scrOf ns] [] = .ok (.val (.bl true)) st) : lawSp K [.ref a] H (fun v _ => v = .bl true) fun _ _ _ => False := fun cls cl => law_sp hS h
theorem all_mk' {l : PySem.W.OpenLaw} {w : World} {K : PySem.W.Frag} {h : Heap} {mg : Str → Option Value} {fa : Addr} (X : K.In h) (G : h.Ns mainGlobals mg) (hfa : mg "law" = some (.ref fa))
    {f0 f1 f2 f3 f4 f5 f6 f7 f8 f9 f10 f11 f12 f13 f14 f15 f16 C0 C1 C2 D0 : Addr} {od0 an0 od1 an1 od2 an2 od3 an3 od4 an4 od5 an5 od6 an6 od7 an7 od8 an8 od9 an9 od10 an10 od11 an11 od12 an12 od13 an13 od14 an14 od15 an15 od16 an16 : Option Addr} {sl0 sl1 sl2 sl3 sl4 sl5 sl6 sl7 sl8 sl9 sl10 sl11 sl12 sl13 sl14 sl15 sl16 : Array (Option Value)} {oc0 kV0 dc0 pm0 cd0 ct0 oc1 kV1 dc1 pm1 cd1 ct1 oc2 kV2 dc2 pm2 cd2 ct2 oc3 kV3 dc3 pm3 cd3 ct3 oc4 kV4 dc4 pm4 cd4 ct4 oc5 kV5 dc5 pm5 cd5 ct5 oc6 kV6 dc6 pm6 cd6 ct6 oc7 kV7 dc7 pm7 cd7 ct7 oc8 kV8 dc8 pm8 cd8 ct8 oc9 kV9 dc9 pm9 cd9 ct9 oc10 kV10 dc10 pm10 cd10 ct10 oc11 kV11 dc11 pm11 cd11 ct11 oc12 kV12 dc12 pm12 cd12 ct12 oc13 kV13 dc13 pm13 cd13 ct13 oc14 kV14 dc14 pm14 cd14 ct14 oc15 kV15 dc15 pm15 cd15 ct15 oc16 kV16 dc16 pm16 cd16 ct16 : Value} {gt0 : Tok} {gt1 : Tok} {gt2 : Tok} {gt3 : Tok}
    (a0 : PySem.W.nsIn K mainGlobals "law" = some (some (.ref f0)))
    (l0 : K.lookup f0 = some ⟨oc0, od0, .func (PySem.W.fnOf "law" "law" (defArgs (top 23)) (defBody (top 23)) (defScope (top 23)) .none kV0 dc0 pm0 an0 cd0 ct0), sl0⟩)
    (c0 : PySem.W.codeIn K cd0 "law" = true)
    (k0 : PySem.W.keepIn K (.ref f0) = true)
    (a1 : PySem.W.nsIn K mainGlobals "_law_refused" = some (some (.ref f1)))
    (l1 : K.lookup f1 = some ⟨oc1, od1, .func (PySem.W.fnOf "_law_refused" "_law_refused" (defArgs (top 21)) (defBody (top 21)) (defScope (top 21)) .none kV1 dc1 pm1 an1 cd1 ct1), sl1⟩)
    (c1 : PySem.W.codeIn K cd1 "_law_refused" = true)
    (k1 : PySem.W.keepIn K (.ref f1) = true)
    (a2 : PySem.W.nsIn K mainGlobals "_law_missing" = some (some (.ref f2)))
    (l2 : K.lookup f2 = some ⟨oc2, od2, .func (PySem.W.fnOf "_law_missing" "_law_missing" (defArgs (top 22)) (defBody (top 22)) (defScope (top 22)) .none kV2 dc2 pm2 an2 cd2 ct2), sl2⟩)
    (c2 : PySem.W.codeIn K cd2 "_law_missing" = true)
    (k2 : PySem.W.keepIn K (.ref f2) = true)
    (a3 : PySem.W.nsIn K mainGlobals "unknown" = some (some (.ref f3)))
    (l3 : K.lookup f3 = some ⟨oc3, od3, .func (PySem.W.fnOf "unknown" "unknown" (defArgs (top 15)) (defBody (top 15)) (defScope (top 15)) .none kV3 dc3 pm3 an3 cd3 ct3), sl3⟩)
    (c3 : PySem.W.codeIn K cd3 "unknown" = true)
    (k3 : PySem.W.keepIn K (.ref f3) = true)
    (a4 : PySem.W.nsIn K mainGlobals "width_of" = some (some (.ref f4)))
    (l4 : K.lookup f4 = some ⟨oc4, od4, .func (PySem.W.fnOf "width_of" "width_of" (defArgs (top 14)) (defBody (top 14)) (defScope (top 14)) .none kV4 dc4 pm4 an4 cd4 ct4), sl4⟩)
    (c4 : PySem.W.codeIn K cd4 "width_of" = true)
    (k4 : PySem.W.keepIn K (.ref f4) = true)
    (a5 : PySem.W.nsIn K mainGlobals "present" = some (some (.ref f5)))
    (l5 : K.lookup f5 = some ⟨oc5, od5, .func (PySem.W.fnOf "present" "present" (defArgs (top 13)) (defBody (top 13)) (defScope (top 13)) .none kV5 dc5 pm5 an5 cd5 ct5), sl5⟩)
    (c5 : PySem.W.codeIn K cd5 "present" = true)
    (k5 : PySem.W.keepIn K (.ref f5) = true)
    (a6 : PySem.W.nsIn K mainGlobals "lots_of" = some (some (.ref f6)))
    (l6 : K.lookup f6 = some ⟨oc6, od6, .func (PySem.W.fnOf "lots_of" "lots_of" (defArgs (top 12)) (defBody (top 12)) (defScope (top 12)) .none kV6 dc6 pm6 an6 cd6 ct6), sl6⟩)
    (c6 : PySem.W.codeIn K cd6 "lots_of" = true)
    (k6 : PySem.W.keepIn K (.ref f6) = true)
    (a7 : PySem.W.nsIn K mainGlobals "check_yard" = some (some (.ref f7)))
    (l7 : K.lookup f7 = some ⟨oc7, od7, .func (PySem.W.fnOf "check_yard" "check_yard" (defArgs (top 11)) (defBody (top 11)) (defScope (top 11)) .none kV7 dc7 pm7 an7 cd7 ct7), sl7⟩)
    (c7 : PySem.W.codeIn K cd7 "check_yard" = true)
    (k7 : PySem.W.keepIn K (.ref f7) = true)
    (a8 : PySem.W.nsIn K mainGlobals "tally_of" = some (some (.ref f8)))
    (l8 : K.lookup f8 = some ⟨oc8, od8, .func (PySem.W.fnOf "tally_of" "tally_of" (defArgs (top 10)) (defBody (top 10)) (defScope (top 10)) .none kV8 dc8 pm8 an8 cd8 ct8), sl8⟩)
    (c8 : PySem.W.codeIn K cd8 "tally_of" = true)
    (k8 : PySem.W.keepIn K (.ref f8) = true)
    (l9 : K.lookup f9 = some ⟨oc9, od9, .func (PySem.W.fnOf "deed" "Tally.deed" (defArgs (inClass (top 9) 3)) (defBody (inClass (top 9) 3)) (defScope (inClass (top 9) 3)) .none kV9 dc9 pm9 an9 cd9 ct9), sl9⟩)
    (c9 : PySem.W.codeIn K cd9 "Tally.deed" = true)
    (k9 : PySem.W.keepIn K (.ref f9) = true)
    (l10 : K.lookup f10 = some ⟨oc10, od10, .func (PySem.W.fnOf "use" "Tally.use" (defArgs (inClass (top 9) 2)) (defBody (inClass (top 9) 2)) (defScope (inClass (top 9) 2)) .none kV10 dc10 pm10 an10 cd10 ct10), sl10⟩)
    (c10 : PySem.W.codeIn K cd10 "Tally.use" = true)
    (k10 : PySem.W.keepIn K (.ref f10) = true)
    (l11 : K.lookup f11 = some ⟨oc11, od11, .func (PySem.W.fnOf "make" "Tally.make" (defArgs (inClass (top 9) 1)) (defBody (inClass (top 9) 1)) (defScope (inClass (top 9) 1)) .none kV11 dc11 pm11 an11 cd11 ct11), sl11⟩)
    (c11 : PySem.W.codeIn K cd11 "Tally.make" = true)
    (k11 : PySem.W.keepIn K (.ref f11) = true)
    (l12 : K.lookup f12 = some ⟨oc12, od12, .func (PySem.W.fnOf "__init__" "Tally.__init__" (defArgs (inClass (top 9) 0)) (defBody (inClass (top 9) 0)) (defScope (inClass (top 9) 0)) .none kV12 dc12 pm12 an12 cd12 ct12), sl12⟩)
    (c12 : PySem.W.codeIn K cd12 "Tally.__init__" = true)
    (k12 : PySem.W.keepIn K (.ref f12) = true)
    (a13 : PySem.W.nsIn K mainGlobals "_law_lots" = some (some (.ref f13)))
    (l13 : K.lookup f13 = some ⟨oc13, od13, .func (PySem.W.fnOf "_law_lots" "_law_lots" (defArgs (top 20)) (defBody (top 20)) (defScope (top 20)) .none kV13 dc13 pm13 an13 cd13 ct13), sl13⟩)
    (c13 : PySem.W.codeIn K cd13 "_law_lots" = true)
    (k13 : PySem.W.keepIn K (.ref f13) = true)
    (a14 : PySem.W.nsIn K mainGlobals "_law_yard" = some (some (.ref f14)))
    (l14 : K.lookup f14 = some ⟨oc14, od14, .func (PySem.W.fnOf "_law_yard" "_law_yard" (defArgs (top 19)) (defBody (top 19)) (defScope (top 19)) .none kV14 dc14 pm14 an14 cd14 ct14), sl14⟩)
    (c14 : PySem.W.codeIn K cd14 "_law_yard" = true)
    (k14 : PySem.W.keepIn K (.ref f14) = true)
    (a15 : PySem.W.nsIn K mainGlobals "_law_at" = some (some (.ref f15)))
    (l15 : K.lookup f15 = some ⟨oc15, od15, .func (PySem.W.fnOf "_law_at" "_law_at" (defArgs (top 18)) (defBody (top 18)) (defScope (top 18)) .none kV15 dc15 pm15 an15 cd15 ct15), sl15⟩)
    (c15 : PySem.W.codeIn K cd15 "_law_at" = true)
    (k15 : PySem.W.keepIn K (.ref f15) = true)
    (a16 : PySem.W.nsIn K mainGlobals "_law_row" = some (some (.ref f16)))
    (l16 : K.lookup f16 = some ⟨oc16, od16, .func (PySem.W.fnOf "_law_row" "_law_row" (defArgs (top 17)) (defBody (top 17)) (defScope (top 17)) .none kV16 dc16 pm16 an16 cd16 ct16), sl16⟩)
    (c16 : PySem.W.codeIn K cd16 "_law_row" = true)
    (k16 : PySem.W.keepIn K (.ref f16) = true)
    (nA0 : PySem.W.nsIn K mainGlobals "Tally" = some (some (.ref D0)))
    (nG0 : PySem.W.plainGet K D0 Str.empty = true)
    (nH0 : PySem.W.hasDictIn K D0 = true)
    (nP0 : PySem.W.plainOver K D0 = true)
    (nS0 : PySem.W.findIn K (.ref D0) "__setattr__" = some (some (.builtin "object.__setattr__")))
    (nM0 : PySem.W.makesIn K D0 = true)
    (nK0 : PySem.W.keepIn K (.ref D0) = true)
    (nF0_0 : PySem.W.findIn K (.ref D0) "households" = some none)
    (nF0_1 : PySem.W.findIn K (.ref D0) "lots" = some none)
    (nF0_2 : PySem.W.findIn K (.ref D0) "there" = some none)
    (mA9 : PySem.W.findIn K (.ref D0) "deed" = some (some (.ref f9)))
    (mF9 : PySem.W.isFn K (.ref f9) = true)
    (mA10 : PySem.W.findIn K (.ref D0) "use" = some (some (.ref f10)))
    (mF10 : PySem.W.isFn K (.ref f10) = true)
    (mA11 : PySem.W.findIn K (.ref D0) "make" = some (some (.ref f11)))
    (mF11 : PySem.W.isFn K (.ref f11) = true)
    (mA12 : PySem.W.findIn K (.ref D0) "__init__" = some (some (.ref f12)))
    (mF12 : PySem.W.isFn K (.ref f12) = true)
    (eA0 : PySem.W.nsIn K mainGlobals "KerbError" = some (some (.ref C0)))
    (eX0 : PySem.W.excIn K C0 [.type "ValueError", .type "Exception", .type "BaseException", .type "object"] "ValueError.__new__" = true)
    (eK0 : PySem.W.keepIn K (.ref C0) = true)
    (eB0 : PySem.W.subIn K (.ref C0) (.type "BaseException") = some true)
    (eT0 : PySem.W.typeIn K (.ref C0) = some (.type "type"))
    (eG0 : PySem.W.findIn K (.ref C0) "__getattribute__" = some (some (.builtin "BaseException.__getattribute__")))
    (eH0 : PySem.W.findIn K (.ref C0) "__getattr__" = some none)
    (eD0 : PySem.W.hasDictIn K C0 = true)
    (eC0 : PySem.W.findIn K (.ref C0) "__class__" = some (some (.builtin "object.__class__")))
    (eM0 : PySem.W.mroIn K C0 (.type "object") = some true)
    (eS0_0 : PySem.W.subIn K (.ref C0) (.ref C0) = some true)
    (eS0_1 : PySem.W.subIn K (.ref C0) (.ref C1) = some false)
    (eS0_2 : PySem.W.subIn K (.ref C0) (.ref C2) = some false)
    (eA1 : PySem.W.nsIn K mainGlobals "NotAllowed" = some (some (.ref C1)))
    (eX1 : PySem.W.excIn K C1 [.type "ValueError", .type "Exception", .type "BaseException", .type "object"] "ValueError.__new__" = true)
    (eK1 : PySem.W.keepIn K (.ref C1) = true)
    (eB1 : PySem.W.subIn K (.ref C1) (.type "BaseException") = some true)
    (eT1 : PySem.W.typeIn K (.ref C1) = some (.type "type"))
    (eG1 : PySem.W.findIn K (.ref C1) "__getattribute__" = some (some (.builtin "BaseException.__getattribute__")))
    (eH1 : PySem.W.findIn K (.ref C1) "__getattr__" = some none)
    (eD1 : PySem.W.hasDictIn K C1 = true)
    (eC1 : PySem.W.findIn K (.ref C1) "__class__" = some (some (.builtin "object.__class__")))
    (eM1 : PySem.W.mroIn K C1 (.type "object") = some true)
    (eS1_0 : PySem.W.subIn K (.ref C1) (.ref C0) = some true)
    (eS1_1 : PySem.W.subIn K (.ref C1) (.ref C1) = some true)
    (eS1_2 : PySem.W.subIn K (.ref C1) (.ref C2) = some false)
    (eA2 : PySem.W.nsIn K mainGlobals "Missing" = some (some (.ref C2)))
    (eX2 : PySem.W.excIn K C2 [.type "ValueError", .type "Exception", .type "BaseException", .type "object"] "ValueError.__new__" = true)
    (eK2 : PySem.W.keepIn K (.ref C2) = true)
    (eB2 : PySem.W.subIn K (.ref C2) (.type "BaseException") = some true)
    (eT2 : PySem.W.typeIn K (.ref C2) = some (.type "type"))
    (eG2 : PySem.W.findIn K (.ref C2) "__getattribute__" = some (some (.builtin "BaseException.__getattribute__")))
    (eH2 : PySem.W.findIn K (.ref C2) "__getattr__" = some none)
    (eD2 : PySem.W.hasDictIn K C2 = true)
    (eC2 : PySem.W.findIn K (.ref C2) "__class__" = some (some (.builtin "object.__class__")))
    (eM2 : PySem.W.mroIn K C2 (.type "object") = some true)
    (eS2_0 : PySem.W.subIn K (.ref C2) (.ref C0) = some true)
    (eS2_1 : PySem.W.subIn K (.ref C2) (.ref C1) = some false)
    (eS2_2 : PySem.W.subIn K (.ref C2) (.ref C2) = some true)
    (eN : PySem.W.specialIn K (.builtin "object.__class__") "__get__" = some (some (.builtin "getset_descriptor.__get__")))
    (eQ : PySem.W.takesIn K (.builtin "object.__class__") = some true)
    (z0 : PySem.W.nsIn K mainGlobals "abs" = some none)
    (z1 : PySem.W.nsIn K mainGlobals "int" = some none)
    (z2 : PySem.W.nsIn K mainGlobals "isinstance" = some none)
    (z3 : PySem.W.nsIn K mainGlobals "len" = some none)
    (z4 : PySem.W.nsIn K mainGlobals "range" = some none)
    (z5 : PySem.W.nsIn K mainGlobals "sorted" = some none)
    (z6 : PySem.W.nsIn K mainGlobals "tuple" = some none)
    (qg0 : PySem.W.nsIn K mainGlobals "MAX_PARTS" = some (some (.int 3 gt0)))
    (qg1 : PySem.W.nsIn K mainGlobals "MAX_HOUSEHOLDS" = some (some (.int 4 gt1)))
    (qg2 : PySem.W.nsIn K mainGlobals "MAX_UNKNOWNS" = some (some (.int 24 gt2)))
    (qg3 : PySem.W.nsIn K mainGlobals "MAX_LOTS" = some (some (.int 8 gt3))) :
    ∃ fd : FuncData, (∀ (s : Shared) (v : Value), BindsTo s fd ⟨[v], []⟩ [("_law_script", v)]) ∧ ∀ base : Heap, K.In base → base.Ns mainGlobals mg → FnOk l.prog w K mg base (L2.CX l.prog w) 34 fa fd ["_law_script"] (lawSp K) := by
  obtain ⟨fd, h1, cls, cl, h2⟩ := all_mk (l := l) (w := w) (fuel := 1000000) X G hfa a0 l0 c0 k0 a1 l1 c1 k1 a2 l2 c2 k2 a3 l3 c3 k3 a4 l4 c4 k4 a5 l5 c5 k5 a6 l6 c6 k6 a7 l7 c7 k7 a8 l8 c8 k8 l9 c9 k9 l10 c10 k10 l11 c11 k11 l12 c12 k12 a13 l13 c13 k13 a14 l14 c14 k14 a15 l15 c15 k15 a16 l16 c16 k16 nA0 nG0 nH0 nP0 nS0 nM0 nK0 nF0_0 nF0_1 nF0_2 mA9 mF9 mA10 mF10 mA11 mF11 mA12 mF12 eA0 eX0 eK0 eB0 eT0 eG0 eH0 eD0 eC0 eM0 eS0_0 eS0_1 eS0_2 eA1 eX1 eK1 eB1 eT1 eG1 eH1 eD1 eC1 eM1 eS1_0 eS1_1 eS1_2 eA2 eX2 eK2 eB2 eT2 eG2 eH2 eD2 eC2 eM2 eS2_0 eS2_1 eS2_2 eN eQ z0 z1 z2 z3 z4 z5 z6 qg0 qg1 qg2 qg3
  exact ⟨fd, h1, fun base hb hg => (h2 base hb hg).imp fun vs H Q E q => q cls cl⟩

end EV
open PySem PySem.W PyProof.Rows
set_option maxHeartbeats 0 in
theorem PySem.Challenge.cw_kerbside_k30_yards_checked_holds : PySem.Challenge.rw_kerbside_k30_yards_checked.Holds := by
  w_on; o_law; k_head; (case hw => w_witness2)
  k_fill
  refine EV.walk_ofX (l := PySem.Challenge.rw_kerbside_k30_yards_checked) (n := 63) (k := 34) (x := "_law_script") (sp := EV.lawSp) rfl (by decide) rfl ⟨rfl, by decide, by decide⟩ (fun w h Y => PySem.W.kIn_of Y) ?F (fun K H a ns hl hS => EV.lawSp_of hS (EV.pure_law ns hl))
  case F =>
    intro w mg fa h KX G hmg
    refine' EV.all_mk' KX G hmg ?a0 ?l0 ?c0 ?k0 ?a1 ?l1 ?c1 ?k1 ?a2 ?l2 ?c2 ?k2 ?a3 ?l3 ?c3 ?k3 ?a4 ?l4 ?c4 ?k4 ?a5 ?l5 ?c5 ?k5 ?a6 ?l6 ?c6 ?k6 ?a7 ?l7 ?c7 ?k7 ?a8 ?l8 ?c8 ?k8 ?l9 ?c9 ?k9 ?l10 ?c10 ?k10 ?l11 ?c11 ?k11 ?l12 ?c12 ?k12 ?a13 ?l13 ?c13 ?k13 ?a14 ?l14 ?c14 ?k14 ?a15 ?l15 ?c15 ?k15 ?a16 ?l16 ?c16 ?k16 ?nA0 ?nG0 ?nH0 ?nP0 ?nS0 ?nM0 ?nK0 ?nF0_0 ?nF0_1 ?nF0_2 ?mA9 ?mF9 ?mA10 ?mF10 ?mA11 ?mF11 ?mA12 ?mF12 ?eA0 ?eX0 ?eK0 ?eB0 ?eT0 ?eG0 ?eH0 ?eD0 ?eC0 ?eM0 ?eS0_0 ?eS0_1 ?eS0_2 ?eA1 ?eX1 ?eK1 ?eB1 ?eT1 ?eG1 ?eH1 ?eD1 ?eC1 ?eM1 ?eS1_0 ?eS1_1 ?eS1_2 ?eA2 ?eX2 ?eK2 ?eB2 ?eT2 ?eG2 ?eH2 ?eD2 ?eC2 ?eM2 ?eS2_0 ?eS2_1 ?eS2_2 ?eN ?eQ ?z0 ?z1 ?z2 ?z3 ?z4 ?z5 ?z6 ?qg0 ?qg1 ?qg2 ?qg3
    (case a0 => k_is)
    (case a1 => k_is)
    (case a2 => k_is)
    (case a3 => k_is)
    (case a4 => k_is)
    (case a5 => k_is)
    (case a6 => k_is)
    (case a7 => k_is)
    (case a8 => k_is)
    (case a13 => k_is)
    (case a14 => k_is)
    (case a15 => k_is)
    (case a16 => k_is)
    (case nA0 => k_is)
    (case eA0 => k_is)
    (case eA1 => k_is)
    (case eA2 => k_is)
    (case mA9 => k_is)
    (case mA10 => k_is)
    (case mA11 => k_is)
    (case mA12 => k_is)
    (case l0 => k_is)
    (case c0 => k_is)
    (case k0 => k_is)
    (case l1 => k_is)
    (case c1 => k_is)
    (case k1 => k_is)
    (case l2 => k_is)
    (case c2 => k_is)
    (case k2 => k_is)
    (case l3 => k_is)
    (case c3 => k_is)
    (case k3 => k_is)
    (case l4 => k_is)
    (case c4 => k_is)
    (case k4 => k_is)
    (case l5 => k_is)
    (case c5 => k_is)
    (case k5 => k_is)
    (case l6 => k_is)
    (case c6 => k_is)
    (case k6 => k_is)
    (case l7 => k_is)
    (case c7 => k_is)
    (case k7 => k_is)
    (case l8 => k_is)
    (case c8 => k_is)
    (case k8 => k_is)
    (case l9 => k_is)
    (case c9 => k_is)
    (case k9 => k_is)
    (case l10 => k_is)
    (case c10 => k_is)
    (case k10 => k_is)
    (case l11 => k_is)
    (case c11 => k_is)
    (case k11 => k_is)
    (case l12 => k_is)
    (case c12 => k_is)
    (case k12 => k_is)
    (case l13 => k_is)
    (case c13 => k_is)
    (case k13 => k_is)
    (case l14 => k_is)
    (case c14 => k_is)
    (case k14 => k_is)
    (case l15 => k_is)
    (case c15 => k_is)
    (case k15 => k_is)
    (case l16 => k_is)
    (case c16 => k_is)
    (case k16 => k_is)
    (case nG0 => k_is)
    (case nH0 => k_is)
    (case nP0 => k_is)
    (case nS0 => k_is)
    (case nM0 => k_is)
    (case nK0 => k_is)
    (case nF0_0 => k_is)
    (case nF0_1 => k_is)
    (case nF0_2 => k_is)
    (case mF9 => k_is)
    (case mF10 => k_is)
    (case mF11 => k_is)
    (case mF12 => k_is)
    (case eX0 => first | k_is | k_exc)
    (case eK0 => k_is)
    (case eB0 => k_is)
    (case eT0 => k_is)
    (case eG0 => k_is)
    (case eH0 => k_is)
    (case eD0 => k_is)
    (case eC0 => k_is)
    (case eM0 => k_is)
    (case eX1 => first | k_is | k_exc)
    (case eK1 => k_is)
    (case eB1 => k_is)
    (case eT1 => k_is)
    (case eG1 => k_is)
    (case eH1 => k_is)
    (case eD1 => k_is)
    (case eC1 => k_is)
    (case eM1 => k_is)
    (case eX2 => first | k_is | k_exc)
    (case eK2 => k_is)
    (case eB2 => k_is)
    (case eT2 => k_is)
    (case eG2 => k_is)
    (case eH2 => k_is)
    (case eD2 => k_is)
    (case eC2 => k_is)
    (case eM2 => k_is)
    (case eN => k_is)
    (case eQ => k_is)
    (case z0 => k_is)
    (case z1 => k_is)
    (case z2 => k_is)
    (case z3 => k_is)
    (case z4 => k_is)
    (case z5 => k_is)
    (case z6 => k_is)
    (case qg0 => k_is)
    (case qg1 => k_is)
    (case qg2 => k_is)
    (case qg3 => k_is)
    (case eS0_0 => first | rfl | k_is)
    (case eS0_1 => first | rfl | k_is)
    (case eS0_2 => first | rfl | k_is)
    (case eS1_0 => first | rfl | k_is)
    (case eS1_1 => first | rfl | k_is)
    (case eS1_2 => first | rfl | k_is)
    (case eS2_0 => first | rfl | k_is)
    (case eS2_1 => first | rfl | k_is)
    (case eS2_2 => first | rfl | k_is)

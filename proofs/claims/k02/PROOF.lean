import PyProof.Rows.All
import Wide.All
import OpenK.AllK
import Wide.FinOn
import KE.SortData
import KE.DataMinMax
import HandS.ForMost
import HandS.Exc
import HandS.TryOnly
import HandS.CallSlots
import HandS.WordsExc
import HandS.IsInst
import HandS.TupAny
import HandS.Deep
import HandS.Style
import HandS.AnyAll
import KE.SortUse
import HandS.Set
import PyProof.TupleOfSeq
import KE.KExcSuper
import KE.KSuper
import HandS.ExcSuper
import PyProof.ExcBaseAll.ValueError
import PyProof.ExcBaseAll.LookupError
import HandS.SetFor
import HandS.TupSets
import HandS.Walk
import HandS.ExcField
import HandS.ExcIs
import KE.KExcIs
import KE.KIsAll
import HandS.Zip
import HandS.Flow
import HandS.Star
import KE.GoesEnum
import HandS.Iter
import HandS.NoneIn
import HandS.DictComp
import HandS.TryMany
import HandS.Defaults
import KE.KStateDown
import HandS.Ends
import HandS.Words
import HandS.Head0
import HandS.Head1
import HandS.Head2
import HandS.HeadEnd
import HandS.HeadHook1
import HandS.HeadHook2
import PySem.Challenge.RW_copylayouts_k02_what_is_reached
set_option Elab.async false
set_option linter.all false
set_option autoImplicit false
set_option maxRecDepth 100000
section
/-! Pd: a pure evaluator over data, its own small code. -/
namespace Pd
open PySem

abbrev D := PyData

/-! ### results, states -/
/-- what a box of draws holds -/
structure Bx where
  a : Int
  b : Int
  c : Int
inductive Res (α : Type) where
  | bad
  | ok (a : α) (s : Bx)
  | exc (c : Nat) (p : Option D) (s : Bx)
def M (α : Type) : Type := Bx → Res α
namespace M
def pure {α : Type} (a : α) : M α := fun s => .ok a s
def bad {α : Type} : M α := fun _ => .bad
def throw {α : Type} (c : Nat) (p : Option D) : M α := fun s => .exc c p s
def bind {α β : Type} (m : M α) (f : α → M β) : M β := fun s => match m s with
  | .bad => .bad
  | .ok a s' => f a s'
  | .exc c p s' => .exc c p s'
/-- nothing is raised here -/
def quiet {α : Type} (m : M α) : M α := fun s => match m s with
  | .bad => .bad
  | .ok a s' => .ok a s'
  | .exc _ _ _ => .bad
def ofOpt {α : Type} : Option α → M α
  | some a => pure a
  | none => bad
def map {α β : Type} (f : α → β) (m : M α) : M β := bind m fun a => pure (f a)
end M

/-- what is handed to a def: data, or the box -/
inductive Val where
  | dat (d : D)
  | box
  | scr (ns : List Int)
abbrev Fn := List Val → M D

/-! ### slots -/
inductive Slot where
  | un
  | dat (d : D)
  | own (ds : List D)
  | box
  | scr (ns : List Int)
abbrev Env := List Slot

/-! ### code -/
inductive Bi where
  | len | abs | int | list | tuple | sorted | all | any | max | min | sum | bool | str | tupl0
  deriving DecidableEq
inductive Ty where
  | int | bool | str | list | tuple
  deriving DecidableEq
inductive Tg where
  | nm (i : Nat)
  | tp (is : List Nat)
mutual
inductive Ex where
  | slot (i : Nat)
  | lit (d : D)
  | glb (k : Nat)
  | bin (o : Operator) (a b : Ex)
  | neg (a : Ex)
  | cmp (o : CmpOp) (a b : Ex)
  | chn (o1 o2 : CmpOp) (a b c : Ex)
  | conj (es : Exs)
  | disj (es : Exs)
  | nt (a : Ex)
  | ite (t a b : Ex)
  | tup (es : Exs)
  | lst (es : Exs)
  | idx (a i : Ex)
  | slc (a : Ex) (lo hi : Eo)
  | rev (a : Ex)
  | call (f : Nat) (as : As)
  | bi (b : Bi) (a : Ex)
  | bi2 (b : Bi) (x y : Ex)
  | isi (a : Ex) (ts : List Ty) (tupled : Bool)
  | sset (a : Ex)
  | lset (a : Ex)
  | bget (i j : Nat)
  | bcall (f : Nat) (kz : Int) (x y : Ex)
  | sslc (i : Nat) (lo hi : Eo)
  | comp (elt : Ex) (own : List Nat) (g : Tg) (it : It) (c : Eo)
  | comp2 (elt : Ex) (own own1 : List Nat) (g : Tg) (it : It) (c : Eo) (g1 : Tg) (it1 : It) (c1 : Eo)
  | dcomp (k v : Ex) (own : List Nat) (g : Tg) (it : It) (c : Eo)
  | kcall (f : Nat) (ks : List Str) (pm : List Nat) (es : Exs)
inductive Exs where
  | nil
  | cons (e : Ex) (r : Exs)
  | star (e : Ex) (r : Exs)
inductive As where
  | nil
  | cons (e : Ex) (r : As)
  | box (i : Nat) (r : As)
  | scr (i : Nat) (r : As)
inductive Eo where
  | no
  | so (e : Ex)
inductive It where
  | ex (e : Ex)
  | rng1 (a : Ex)
  | rng2 (a b : Ex)
  | enum (e : Ex)
  | zip (a b : Ex)
end
/-- what an except suite does: a list of written items and the error's value, kept or handed back -/
inductive HI where
  | lit (d : D)
  | fld
  | isi (look : Bool)
inductive HE where
  | lst (xs : List HI)
  | one (x : HI)
  | cat (z : Str)
inductive Hd where
  | asg (i : Nat) (e : HE)
  | ret (e : HE)
mutual
inductive Sta where
  | asg (i : Nat) (e : Ex)
  | own (i : Nat) (e : Ex)
  | asgT (g : Tg) (e : Ex)
  | par (is : List (Nat × Bool)) (es : Exs)
  | app (i : Nat) (e : Ex)
  | ext (i : Nat) (e : Ex)
  | bset (i j : Nat) (e : Ex)
  | seti (i : Nat) (k e : Ex)
  | ex (e : Ex)
  | ite (t : Ex) (a b : Stas)
  | fr (g : Tg) (it : It) (b : Stas)
  | wh (t : Ex) (b : Stas)
  | ret (e : Ex)
  | rz (c : Nat) (a : Eo)
  | tr (b : Stas) (hs : List (Nat × Nat × Hd))
  | brk
  | cont
  | pas
  | frz (i : Nat) (s : Sta)
  | apop (i j : Nat) (e : Ex)
inductive Stas where
  | nil
  | cons (s : Sta) (r : Stas)
end

/-! ### data -/
def lim : Nat := sizeLine
def shp (d : D) : Bool := SeqAt.shaped d
def truth : D → Option Bool
  | .none => some false
  | .bool b => some b
  | .int i => some (i != 0)
  | .str x => if x.length ≤ lim then some (x.length != 0) else none
  | .list xs => some (!xs.isEmpty)
  | .tuple xs => some (!xs.isEmpty)
  | .dict kvs => some (!kvs.isEmpty)
/-- the items of a list, a tuple -/
def seqOf : D → Option (List D)
  | .list xs => some xs
  | .tuple xs => some xs
  | _ => none
def scalar : D → Bool
  | .none => true
  | .bool _ => true
  | .int _ => true
  | .str _ => true
  | _ => false
/-- ==, where it is told -/
def eqD (a b : D) : Option Bool := match a, b with
  | .none, .none => some true
  | .none, .int _ => some false
  | .int _, .none => some false
  | .none, .bool _ => some false
  | .bool _, .none => some false
  | .none, .str _ => some false
  | .str _, .none => some false
  | .int i, .int j => some (i == j)
  | .bool i, .bool j => some (i == j)
  | .str x, .str y => some (x == y)
  | _, _ => if shp a && shp b then some (PyData.eqv a b) else none
/-- no list, no dict within -/
def noL : D → Bool
  | .none => true
  | .bool _ => true
  | .int _ => true
  | .str _ => true
  | .list _ => false
  | .tuple xs => noLs xs
  | .dict _ => false
where noLs : List D → Bool
  | [] => true
  | x :: r => noL x && noLs r
def ltD (a b : D) : Option Bool := match a, b with
  | .int i, .int j => some (decide (i < j))
  | .str x, .str y => some (decide (x.cps.toList < y.cps.toList))
  | .tuple xs, .tuple ys => if W.alike (.tuple xs) (.tuple ys) && shp (.tuple xs) && shp (.tuple ys) then some (W.dataLt (.tuple xs) (.tuple ys)) else none
  | _, _ => none
def isKey (u : Str) (q : D × D) : Bool := match q.1 with
  | .str v => decide (v = u)
  | _ => false
def inD (x : D) (c : D) : Option Bool := match c with
  | .list ys => if shp x && shp (.list ys) then some (ys.any fun z => PyData.eqv z x) else none
  | .tuple ys => if shp x && shp (.tuple ys) then some (ys.any fun z => PyData.eqv z x) else none
  | .str t => match x with
    | .str u => some (!(Builtin.Str.occurrences t u 0 t.length 1).isEmpty)
    | _ => none
  | .dict kvs => match x with
    | .str u => some (kvs.any (isKey u))
    | _ => none
  | _ => none
def cmpD (o : CmpOp) (a b : D) : Option Bool := match o with
  | .Eq => eqD a b
  | .NotEq => (eqD a b).map not
  | .Lt => ltD a b
  | .Gt => match a, b with
    | .int i, .int j => some (decide (j < i))
    | .str x, .str y => some (decide (y.cps.toList < x.cps.toList))
    | _, _ => none
  | .LtE => match a, b with
    | .int i, .int j => some (decide (i ≤ j))
    | _, _ => none
  | .GtE => match a, b with
    | .int i, .int j => some (decide (j ≤ i))
    | _, _ => none
  | .Is => match b with
    | .none => some (match a with
      | .none => true
      | _ => false)
    | _ => none
  | .IsNot => match b with
    | .none => some (match a with
      | .none => false
      | _ => true)
    | _ => none
  | .In => inD a b
  | .NotIn => (inD a b).map not
def small (i : Int) : Bool := decide (-(2 ^ 64) < i) && decide (i < 2 ^ 64)
def catL (xs ys : List D) : Option (List D) := if xs.length + ys.length ≤ lim then some (xs ++ ys) else none
def binD (o : Operator) (a b : D) : Option D := match o, a, b with
  | .Add, .int i, .int j => some (.int (i + j))
  | .Add, .list xs, .list ys => (catL xs ys).map .list
  | .Add, .tuple xs, .tuple ys => (catL xs ys).map .tuple
  | .Add, .str x, .str y => if x.length + y.length ≤ lim then some (.str (x ++ y)) else none
  | .Sub, .int i, .int j => some (.int (i - j))
  | .Mult, .int i, .int j => if small i || small j then some (.int (i * j)) else none
  | .Mult, .list xs, .int k => if decide (-(2 ^ 63) ≤ k) && decide (k < 2 ^ 63) && decide (xs.length * k.toNat ≤ lim) then some (.list (List.replicate k.toNat xs).flatten) else none
  | .Mod, .int i, .int j => if decide (0 < j) then some (.int (i % j)) else none
  | .FloorDiv, .int i, .int j => if decide (0 < j) && decide (j < 1073741824) then some (.int (i / j)) else none
  | .Pow, .int i, .int j => if decide (0 ≤ j) && decide (j ≤ 1000000) && decide (i.natAbs < 2 ^ 64) then some (.int (i ^ j.toNat)) else none
  | _, _, _ => none
def place (n : Nat) (i : Int) : Option Nat := L2.ixN n i
def lookS (u : Str) : List (D × D) → Option D
  | [] => none
  | (.str v, d) :: r => if v = u then some d else lookS u r
  | _ :: r => lookS u r
def idxD (a i : D) : Option D := match a, i with
  | .list xs, .int k => L2.atI xs k
  | .tuple xs, .int k => L2.atI xs k
  | .str z, .int k => if z.length ≤ lim then (L2.atI z.cps.toList k).map fun c => .str ⟨#[c]⟩ else none
  | .dict kvs, .str u => lookS u kvs
  | _, _ => none
def cutL {α : Type} (xs : List α) (lo hi : Option Int) : List α := (xs.drop (HT.sIx xs.length 0 lo)).take (HT.sIx xs.length xs.length hi - HT.sIx xs.length 0 lo)
def slcD (a : D) (lo hi : Option Int) : Option D := match a with
  | .list xs => some (.list (cutL xs lo hi))
  | .tuple xs => some (.tuple (cutL xs lo hi))
  | _ => none
def revD : D → Option D
  | .list xs => some (.list xs.reverse)
  | _ => none
/-- sorting by straight insertion -/
def insD (x : D) : List D → List D
  | [] => [x]
  | y :: r => if W.dataLt y x then y :: insD x r else x :: y :: r
def isortD : List D → List D
  | [] => []
  | x :: r => insD x (isortD r)
def alikeB (xs : List D) : Bool := xs.all fun x => xs.all fun y => W.alike x y
def kindsB (xs : List D) : Bool := (xs.all fun x => match x with
  | .tuple (_ :: _) => true
  | _ => false) || xs.all fun x => match x with
  | .int _ => true
  | .str _ => true
  | .bool _ => true
  | .list _ => true
  | _ => false
def sortD (xs : List D) : Option (List D) := if alikeB xs && kindsB xs && xs.all shp then some (isortD xs) else none
def memD (x : D) (xs : List D) : Bool := xs.any fun y => PyData.eqv y x
def dedup : List D → List D
  | [] => []
  | x :: r => if memD x (dedup r) then dedup r else x :: dedup r
def allStr (xs : List D) : Bool := xs.all fun x => match x with
  | .str _ => true
  | _ => false
def allInt (xs : List D) : Bool := xs.all fun x => match x with
  | .int _ => true
  | _ => false
def ssetD (a : D) : Option D := (seqOf a).bind fun xs => if (allStr xs || allInt xs) && decide (xs.length < 4000) && xs.all shp then some (.list (isortD (dedup xs))) else none
def lsetD (a : D) : Option D := (seqOf a).bind fun xs => if (allStr xs || allInt xs) && decide (xs.length < 4000) then some (.int (dedup xs).length) else none
def boolsOf : List D → Option (List Bool)
  | [] => some []
  | .bool b :: r => (boolsOf r).map (b :: ·)
  | _ :: _ => none
def intsOf : List D → Option (List Int)
  | [] => some []
  | .int b :: r => (intsOf r).map (b :: ·)
  | _ :: _ => none
def biD (b : Bi) (a : D) : Option D := match b, a with
  | .len, .list xs => some (.int xs.length)
  | .len, .tuple xs => some (.int xs.length)
  | .len, .str x => if x.length ≤ lim then some (.int x.length) else none
  | .abs, .int i => some (.int (if i < 0 then -i else i))
  | .int, .int i => some (.int i)
  | .int, .bool k => some (.int (if k then 1 else 0))
  | .list, .list xs => some (.list xs)
  | .list, .tuple xs => some (.list xs)
  | .tuple, .list xs => some (.tuple xs)
  | .tuple, .tuple xs => some (.tuple xs)
  | .tuple, .str z => if z.cps.size ≤ lim then some (.tuple (z.cps.toList.map fun c => .str ⟨#[c]⟩)) else none
  | .sorted, .list xs => (sortD xs).map .list
  | .sorted, .tuple xs => (sortD xs).map .list
  | .all, .list xs => (boolsOf xs).map fun bs => .bool (bs.all id)
  | .any, .list xs => (boolsOf xs).map fun bs => .bool (bs.any id)
  | _, _ => none
def tyOf : D → Ty → Bool
  | .int _, .int => true
  | .bool _, .int => true
  | .bool _, .bool => true
  | .str _, .str => true
  | .list _, .list => true
  | .tuple _, .tuple => true
  | _, _ => false
/-- the signs of a text -/
def signs (z : Str) : List D := z.cps.toList.map fun c => .str ⟨#[c]⟩
def itemsOf : D → Option (List D)
  | .list xs => some xs
  | .tuple xs => some xs
  | .str z => some (signs z)
  | _ => none
def rangeD (lo : Int) : Nat → List D
  | 0 => []
  | n + 1 => .int lo :: rangeD (lo + 1) n
def enumD (k : Int) : List D → List D
  | [] => []
  | x :: r => .tuple [.int k, x] :: enumD (k + 1) r
def zipD : List D → List D → List D
  | x :: r, y :: t => .tuple [x, y] :: zipD r t
  | _, _ => []
def enmD : D → Option (List D)
  | .list xs => some (enumD 0 xs)
  | .tuple xs => some (enumD 0 xs)
  | _ => none
def zippD (a b : D) : Option (List D) := match a, b with
  | .list xs, .list ys => some (zipD xs ys)
  | .tuple xs, .tuple ys => some (zipD xs ys)
  | _, _ => none
def inR (i : Int) : Bool := decide (-(2 ^ 62) ≤ i) && decide (i < 2 ^ 62)
def rngD (a b : D) : Option (List D) := match a, b with
  | .int i, .int j => if inR i && inR j then some (rangeD i (j - i).toNat) else none
  | _, _ => none

/-! ### the evaluator -/
def isOwn (ρ : Env) : Ex → Bool
  | .slot i => match ρ[i]? with
    | some (.own _) => true
    | _ => false
  | .ite _ a b => isOwn ρ a || isOwn ρ b
  | _ => false
def anyOwn (ρ : Env) : List Nat → Bool
  | [] => false
  | i :: r => isOwn ρ (.slot i) || anyOwn ρ r
def itOwn (ρ : Env) : It → Bool
  | .ex e => isOwn ρ e
  | .rng1 _ => false
  | .rng2 _ _ => false
  | .enum e => isOwn ρ e
  | .zip a b => isOwn ρ a || isOwn ρ b
def eoOwn (ρ : Env) : Eo → Bool
  | .no => false
  | .so e => isOwn ρ e
def ownAs (ρ : Env) : As → Bool
  | .nil => false
  | .cons e r => isOwn ρ e || ownAs ρ r
  | .box _ r => ownAs ρ r
  | .scr _ r => ownAs ρ r
def getSlot (ρ : Env) (i : Nat) : M D := match ρ[i]? with
  | some (.dat d) => .pure d
  | some (.own ds) => .pure (.list ds)
  | _ => .bad
/-- the names i, .. hold what the target takes -/
def bindAll : List Nat → List D → Env → Option Env
  | [], [], ρ => some ρ
  | i :: is, d :: ds, ρ => bindAll is ds (ρ.set i (.dat d))
  | _, _, _ => none
def bindTg (g : Tg) (d : D) (ρ : Env) : M Env := match g with
  | .nm i => .pure (ρ.set i (.dat d))
  | .tp is => match d with
    | .tuple xs => .ofOpt (bindAll is xs ρ)
    | .list xs => .ofOpt (bindAll is xs ρ)
    | _ => .bad
def wipeE (ρ : Env) : List Nat → Env
  | [] => ρ
  | i :: r => wipeE (ρ.set i .un) r
/-- what keywords hand over, in the parameters' order -/
def pmL {α : Type} (pm : List Nat) (xs : List α) : List α := pm.filterMap fun i => xs[i]?
/-- the items that are kept -/
def collect (f : D → M (Option D)) : List D → M (List D)
  | [] => .pure []
  | x :: r => .bind (f x) fun y => .bind (collect f r) fun ys => .pure (match y with
    | some d => d :: ys
    | none => ys)
def collect2 (f : D → M (List D)) : List D → M (List D)
  | [] => .pure []
  | x :: r => .bind (f x) fun y => .bind (collect2 f r) fun ys => .pure (y ++ ys)
def collectK (f : D → M (Option (D × D))) : List D → M (List (D × D))
  | [] => .pure []
  | x :: r => .bind (f x) fun y => .bind (collectK f r) fun ys => .pure (match y with
    | some d => d :: ys
    | none => ys)
def ckLim (xs : List D) : M D := if xs.length ≤ lim then .pure (.list xs) else .bad
def ckTup (xs : List D) : M D := if xs.length ≤ lim then .pure (.tuple xs) else .bad
def keyOk : D → Bool
  | .str _ => true
  | _ => false
def maxD (u v : D) : M D := match u, v with
  | .int i, .int j => .pure (.int (if j > i then j else i))
  | _, _ => .bad
def minD (u v : D) : M D := match u, v with
  | .int i, .int j => .pure (.int (if j < i then j else i))
  | _, _ => .bad
def bi2D (b : Bi) (u v : D) : M D := match b with
  | .max => maxD u v
  | .min => minD u v
  | _ => .bad
/-- no list goes out -/
def noLk (m : M D) : M D := fun s => match m s with
  | .bad => .bad
  | .ok d s' => if noL d then .ok d s' else .bad
  | .exc c p s' => if (p.map noL).getD true then .exc c p s' else .bad
/-- a new box, by the cells and a number -/
def boxF (kz : Int) (u v : D) : Option Bx := match u, v with
  | .list xs, .int k => if 0 ≤ k then (match (if k < xs.length then xs[k.toNat]? else some (.int 0)) with
    | some (.int c) => some ⟨(if c < 0 then -c else c) * (if (if c < 0 then -c else c) ≥ 10 ^ 18 then 1 else 0), c % 2305843009213693951 + 39373 * k + kz, 0⟩
    | _ => none) else none
  | _, _ => none
/-- a call with a new box; one's own box stays -/
def inBox (F : Fn) (kz : Int) (u v : D) : M D := fun s => match boxF kz u v with
  | some bs => (match F [.box] bs with
    | .ok d _ => .ok d s
    | .exc c p _ => .exc c p s
    | .bad => .bad)
  | none => .bad
def getBx (j : Nat) : M D := fun s => match j with
  | 0 => .ok (.int s.a) s
  | 1 => .ok (.int s.b) s
  | 2 => .ok (.int s.c) s
  | _ => .bad
def trM (m : M D) : M Bool := .bind m fun x => .ofOpt (truth x)
/-- one turn of a comprehension's block, by data -/
def turnF (tg : Tg) (own : List Nat) (mc : Env → M Bool) (me : Env → M PyData) (oe : Env → Bool) (ρ : Env) (d : PyData) : M (Option PyData) :=
  .bind (bindTg tg d (wipeE ρ own)) fun ρ' => .bind (mc ρ') fun k => if k then (if oe ρ' then .bad else .bind (me ρ') fun y => .pure (some y)) else .pure none
def turnF2 (tg : Tg) (own : List Nat) (mc : Env → M Bool) (oi : Env → Bool) (mi : Env → M (List PyData)) (tg1 : Tg) (own1 : List Nat) (mc1 : Env → M Bool) (me : Env → M PyData) (oe : Env → Bool) (ρ : Env) (d : PyData) : M (List PyData) :=
  .bind (bindTg tg d (wipeE ρ own)) fun ρ' => .bind (mc ρ') fun k => if k then (if oi ρ' then .bad else .bind (mi ρ') fun ys => if anyOwn ρ' own1 then .bad else collect (turnF tg1 own1 mc1 me oe ρ') ys) else .pure []
def turnK (tg : Tg) (own : List Nat) (mc : Env → M Bool) (mk mv : Env → M PyData) (ov : Env → Bool) (ρ : Env) (d : PyData) : M (Option (PyData × PyData)) :=
  .bind (bindTg tg d (wipeE ρ own)) fun ρ' => .bind (mc ρ') fun k => if k then (if ov ρ' then .bad else .bind (mk ρ') fun x => .bind (mv ρ') fun y => if keyOk x then .pure (some (x, y)) else .bad) else .pure none
def ckDic (ps : List (D × D)) : M D := if ps.length ≤ lim && decide ((ps.map fun p => match p.1 with
        | .str u => u.cps.toList
        | _ => []).Nodup) then .pure (.dict ps) else .bad
section
variable (Φ : Nat → Fn) (C : List D)
mutual
def ev : Ex → Env → M D
  | .slot i, ρ => getSlot ρ i
  | .lit d, _ => .pure d
  | .glb k, _ => .ofOpt C[k]?
  | .bin o a b, ρ => .bind (ev a ρ) fun x => .bind (ev b ρ) fun y => .ofOpt (binD o x y)
  | .neg a, ρ => .bind (ev a ρ) fun x => match x with
    | .int i => .pure (.int (-i))
    | _ => .bad
  | .cmp o a b, ρ => .bind (.bind (ev a ρ) fun x => .bind (ev b ρ) fun y => .ofOpt (cmpD o x y)) fun k => .pure (.bool k)
  | .chn o1 o2 a b c, ρ => .bind (.bind (ev a ρ) fun x => .bind (ev b ρ) fun y => .bind (.ofOpt (cmpD o1 x y)) fun k =>
    if k then .bind (ev c ρ) fun z => .ofOpt (cmpD o2 y z) else .pure false) fun k => .pure (.bool k)
  | .conj es, ρ => evAnd es ρ
  | .disj es, ρ => evOr es ρ
  | .nt a, ρ => .bind (.bind (trM (ev a ρ)) fun k => .pure (!k)) fun k => .pure (.bool k)
  | .ite t a b, ρ => .bind (trM (ev t ρ)) fun k => if k then ev a ρ else ev b ρ
  | .tup es, ρ => .bind (evs es ρ) ckTup
  | .lst es, ρ => .bind (evs es ρ) ckLim
  | .idx a i, ρ => .bind (ev a ρ) fun x => .bind (ev i ρ) fun k => .ofOpt (idxD x k)
  | .slc a lo hi, ρ => .bind (ev a ρ) fun x => .bind (evp lo ρ) fun l => .bind (evp hi ρ) fun h => .ofOpt (slcD x l h)
  | .rev a, ρ => .bind (ev a ρ) fun x => .ofOpt (revD x)
  | .call f as, ρ => .bind (evas as ρ) fun vs => if ownAs ρ as then noLk (Φ f vs) else Φ f vs
  | .bi b a, ρ => .bind (ev a ρ) fun x => .ofOpt (biD b x)
  | .bi2 b x y, ρ => .bind (ev x ρ) fun u => .bind (ev y ρ) fun v => bi2D b u v
  | .isi a ts _, ρ => .bind (ev a ρ) fun x => .pure (.bool (ts.any (tyOf x)))
  | .sset a, ρ => .bind (ev a ρ) fun x => .ofOpt (ssetD x)
  | .lset a, ρ => .bind (ev a ρ) fun x => .ofOpt (lsetD x)
  | .bcall f kz x y, ρ => if isOwn ρ x || isOwn ρ y then .bad else .bind (ev x ρ) fun u => .bind (ev y ρ) fun v => inBox (Φ f) kz u v
  | .bget i j, ρ => match ρ[i]? with
    | some .box => getBx j
    | _ => .bad
  | .kcall f _ pm es, ρ => .bind (evs es ρ) fun xs => Φ f ((pmL pm xs).map .dat)
  | .sslc i lo hi, ρ => match ρ[i]? with
    | some (.scr ns) => .bind (evp lo ρ) fun l => .bind (evp hi ρ) fun h => .pure (.list (cutL (ns.map PyData.int) l h))
    | _ => .bad
  | .comp elt own g it c, ρ => .bind (evIt it ρ) fun xs => if anyOwn ρ own then .bad else .bind (M.quiet (collect (turnF g own (fun ρ' => evc c ρ') (fun ρ' => ev elt ρ') (fun ρ' => isOwn ρ' elt) ρ) xs)) ckLim
  | .comp2 elt own own1 g it c g1 it1 c1, ρ => .bind (evIt it ρ) fun xs => if anyOwn ρ own then .bad else .bind (M.quiet (collect2 (turnF2 g own (fun ρ' => evc c ρ') (fun ρ' => itOwn ρ' it1) (fun ρ' => evIt it1 ρ') g1 own1 (fun ρ' => evc c1 ρ') (fun ρ' => ev elt ρ') (fun ρ' => isOwn ρ' elt) ρ) xs)) ckLim
  | .dcomp k v own g it c, ρ => .bind (evIt it ρ) fun xs => if anyOwn ρ own then .bad else .bind (M.quiet (collectK (turnK g own (fun ρ' => evc c ρ') (fun ρ' => ev k ρ') (fun ρ' => ev v ρ') (fun ρ' => isOwn ρ' v) ρ) xs)) ckDic
def evs : Exs → Env → M (List D)
  | .nil, _ => .pure []
  | .cons e r, ρ => if isOwn ρ e then .bad else .bind (ev e ρ) fun x => .bind (evs r ρ) fun xs => .pure (x :: xs)
  | .star e r, ρ => .bind (ev e ρ) fun x => .bind (.ofOpt (seqOf x)) fun ys => .bind (evs r ρ) fun xs => .pure (ys ++ xs)
def evas : As → Env → M (List Val)
  | .nil, _ => .pure []
  | .cons e r, ρ => .bind (ev e ρ) fun x => .bind (evas r ρ) fun xs => .pure (.dat x :: xs)
  | .box i r, ρ => match ρ[i]? with
    | some .box => .bind (evas r ρ) fun xs => .pure (.box :: xs)
    | _ => .bad
  | .scr i r, ρ => match ρ[i]? with
    | some (.scr ns) => .bind (evas r ρ) fun xs => .pure (.scr ns :: xs)
    | _ => .bad
def evp : Eo → Env → M (Option Int)
  | .no, _ => .pure none
  | .so e, ρ => .bind (ev e ρ) fun x => match x with
    | .int i => .pure (some i)
    | _ => .bad
def evo : Eo → Env → M (Option D)
  | .no, _ => .pure none
  | .so e, ρ => .bind (ev e ρ) fun x => .pure (some x)
/-- a condition -/
def evc : Eo → Env → M Bool
  | .no, _ => .pure true
  | .so e, ρ => trM (ev e ρ)
def evAnd : Exs → Env → M D
  | .nil, _ => .bad
  | .cons e .nil, ρ => if isOwn ρ e then .bad else ev e ρ
  | .cons e (.cons e1 r), ρ => if isOwn ρ e then .bad else .bind (ev e ρ) fun x => .bind (.ofOpt (truth x)) fun k => if k then evAnd (.cons e1 r) ρ else .pure x
  | _, _ => .bad
def evOr : Exs → Env → M D
  | .nil, _ => .bad
  | .cons e .nil, ρ => if isOwn ρ e then .bad else ev e ρ
  | .cons e (.cons e1 r), ρ => if isOwn ρ e then .bad else .bind (ev e ρ) fun x => .bind (.ofOpt (truth x)) fun k => if k then .pure x else evOr (.cons e1 r) ρ
  | _, _ => .bad
def evIt : It → Env → M (List D)
  | .ex e, ρ => .bind (ev e ρ) fun x => .ofOpt (itemsOf x)
  | .rng1 a, ρ => .bind (ev a ρ) fun x => .ofOpt (rngD (.int 0) x)
  | .rng2 a b, ρ => .bind (ev a ρ) fun x => .bind (ev b ρ) fun y => .ofOpt (rngD x y)
  | .enum e, ρ => .bind (ev e ρ) fun x => .ofOpt (enmD x)
  | .zip a b, ρ => .bind (ev a ρ) fun x => .bind (ev b ρ) fun y => .ofOpt (zippD x y)
end
end

inductive Fl where
  | nx
  | ret (d : D)
  | brk
  | ct
inductive Out where
  | bad
  | go (f : Fl) (ρ : Env) (s : Bx)
  | exc (c : Nat) (p : Option D) (ρ : Env) (s : Bx)
abbrev SM := Bx → Out
def SM.bad : SM := fun _ => .bad
def SM.go (f : Fl) (ρ : Env) : SM := fun s => .go f ρ s
/-- an expression within a statement -/
def lft {α : Type} (ρ : Env) (m : M α) (k : α → SM) : SM := fun s => match m s with
  | .bad => .bad
  | .ok a s' => k a s'
  | .exc c p s' => .exc c p ρ s'
def SM.seq (m : SM) (k : Env → SM) : SM := fun s => match m s with
  | .bad => .bad
  | .exc c p ρ s' => .exc c p ρ s'
  | .go .nx ρ s' => k ρ s'
  | .go (.ret d) ρ s' => .go (.ret d) ρ s'
  | .go .brk ρ s' => .go .brk ρ s'
  | .go .ct ρ s' => .go .ct ρ s'
/-- a loop's turn, then what follows -/
def SM.turn (m : SM) (k : Env → SM) : SM := fun s => match m s with
  | .bad => .bad
  | .exc c p ρ s' => .exc c p ρ s'
  | .go .nx ρ s' => k ρ s'
  | .go .ct ρ s' => k ρ s'
  | .go .brk ρ s' => .go .nx ρ s'
  | .go (.ret d) ρ s' => .go (.ret d) ρ s'
/-- while, so many turns at the most -/
def whL (t : Env → M Bool) (b : Env → SM) : Nat → Env → SM
  | 0, _ => .bad
  | n + 1, ρ => lft ρ (t ρ) fun k => if k then SM.turn (b ρ) (whL t b n) else .go .nx ρ
def frL (g : Tg) (b : Env → SM) : List D → Env → SM
  | [], ρ => .go .nx ρ
  | d :: ds, ρ => lft ρ (bindTg g d ρ) fun ρ1 => SM.turn (b ρ1) (frL g b ds)
def fuel : Nat := 1000000
def setPar : List (Nat × Bool) → List D → Env → Option Env
  | [], [], ρ => some ρ
  | (i, false) :: is, d :: ds, ρ => setPar is ds (ρ.set i (.dat d))
  | (i, true) :: is, .list d :: ds, ρ => setPar is ds (ρ.set i (.own d))
  | _, _, _ => none
def srcSlot : It → Option Nat
  | .ex (.slot i) => some i
  | .enum (.slot i) => some i
  | _ => none
/-- a list that a loop walks is no more one's own -/
def freeze (ρ : Env) : Option Nat → Env
  | none => ρ
  | some i => match ρ[i]? with
    | some (.own ds) => ρ.set i (.dat (.list ds))
    | _ => ρ
def setBx (j : Nat) (n : Int) (s : Bx) : Option Bx := match j with
  | 0 => some ⟨n, s.b, s.c⟩
  | 1 => some ⟨s.a, n, s.c⟩
  | 2 => some ⟨s.a, s.b, n⟩
  | _ => none
def bsetD (ρ : Env) (i j : Nat) (x : D) : SM := fun s => match x, ρ[i]? with
  | .int n, some .box => (match setBx j n s with
    | some s' => .go .nx ρ s'
    | none => .bad)
  | _, _ => .bad
section
variable (Φ : Nat → Fn) (C : List D)
def hi (c : Nat) (p : Option D) : HI → Option D
  | .lit d => some d
  | .fld => p
  | .isi k => some (.bool k)
def his (c : Nat) (p : Option D) : List HI → Option (List D)
  | [] => some []
  | x :: r => (hi c p x).bind fun d => (his c p r).map (d :: ·)
def he (c : Nat) (p : Option D) : HE → Option D
  | .lst xs => (his c p xs).map .list
  | .one x => hi c p x
  | .cat z => p.bind fun d => match d with
    | .str y => if z.length + y.length ≤ lim then some (.str (z ++ y)) else none
    | _ => none
def hdR (c : Nat) (p : Option D) (i : Nat) (h : Hd) (ρ : Env) : SM := match h with
  | .asg k e => (match he c p e with
    | some d => SM.go .nx (((ρ.set i .un).set k (.dat d)).set i .un)
    | none => SM.bad)
  | .ret e => (match he c p e with
    | some d => SM.go (.ret d) (ρ.set i .un)
    | none => SM.bad)
def atOwn (ρ : Env) (i : Nat) : Option (List D) := match ρ[i]? with
  | some (.own ds) => some ds
  | _ => none
def frD (x : D) : M D := match x with
  | .list ds => .pure (.list ds)
  | _ => .bad
def frM (m : M D) : M D := .bind m frD
def evPar : Exs → List Bool → Env → M (List D)
  | .nil, [], _ => .pure []
  | .cons e r, false :: fs, ρ => if isOwn ρ e then .bad else .bind (ev Φ C e ρ) fun x => .bind (evPar r fs ρ) fun xs => .pure (x :: xs)
  | .cons e r, true :: fs, ρ => .bind (frM (ev Φ C e ρ)) fun x => .bind (evPar r fs ρ) fun xs => .pure (x :: xs)
  | _, _, _ => .bad
/-- x.append(y.pop(e)), both one's own -/
def apopS (o : Bool) (m : M D) (i j : Nat) (ρ : Env) : SM := if o then .bad else match atOwn ρ i, atOwn ρ j with
  | some ds, some es => if i = j then .bad else lft ρ m fun n => match n with
    | .int z => (match place es.length z with
      | some q => (match es[q]? with
        | some y => if ds.length < lim ∧ es.length ≤ lim then .go .nx ((ρ.set j (.own (es.eraseIdx q))).set i (.own (ds ++ [y]))) else .bad
        | none => .bad)
      | none => .bad)
    | _ => .bad
  | _, _ => .bad
def evT (t : Ex) (ρ : Env) : M Bool := trM (ev Φ C t ρ)
mutual
def exS : Sta → Env → SM
  | .asg i e, ρ => if isOwn ρ e then .bad else lft ρ (ev Φ C e ρ) fun x => .go .nx (ρ.set i (.dat x))
  | .own i e, ρ => lft ρ (ev Φ C e ρ) fun x => match x with
    | .list ds => .go .nx (ρ.set i (.own ds))
    | _ => .bad
  | .asgT g e, ρ => if isOwn ρ e then .bad else lft ρ (ev Φ C e ρ) fun x => lft ρ (bindTg g x ρ) fun ρ' => .go .nx ρ'
  | .par is es, ρ => lft ρ (evPar Φ C es (is.map (·.2)) ρ) fun xs => match setPar is xs ρ with
    | some ρ' => .go .nx ρ'
    | none => .bad
  | .app i e, ρ => if isOwn ρ e then .bad else match atOwn ρ i with
    | some ds => lft ρ (ev Φ C e ρ) fun y => if ds.length < lim then .go .nx (ρ.set i (.own (ds ++ [y]))) else .bad
    | none => .bad
  | .ext i e, ρ => if isOwn ρ e then .bad else match atOwn ρ i with
    | some ds => lft ρ (ev Φ C e ρ) fun y => match seqOf y with
      | some ys => if ds.length + ys.length ≤ lim then .go .nx (ρ.set i (.own (ds ++ ys))) else .bad
      | none => .bad
    | none => .bad
  | .bset i j e, ρ => if isOwn ρ e then .bad else lft ρ (ev Φ C e ρ) fun y => bsetD ρ i j y
  | .seti i k e, ρ => if isOwn ρ e then .bad else match atOwn ρ i with
    | some ds => lft ρ (ev Φ C e ρ) fun y => lft ρ (ev Φ C k ρ) fun n => match n with
      | .int z => (match place ds.length z with
        | some q => .go .nx (ρ.set i (.own (ds.set q y)))
        | none => .bad)
      | _ => .bad
    | none => .bad
  | .ex e, ρ => lft ρ (ev Φ C e ρ) fun _ => .go .nx ρ
  | .ite t a b, ρ => lft ρ (trM (ev Φ C t ρ)) fun k => if k then exB a ρ else exB b ρ
  | .fr g it b, ρ => if itOwn (freeze ρ (srcSlot it)) it then .bad else lft (freeze ρ (srcSlot it)) (evIt Φ C it (freeze ρ (srcSlot it))) fun xs => frL g (exB b) xs (freeze ρ (srcSlot it))
  | .wh t b, ρ => whL (fun ρ' => trM (ev Φ C t ρ')) (exB b) fuel ρ
  | .ret e, ρ => match e with
    | .slot i => lft ρ (getSlot ρ i) fun x => .go (.ret x) ρ
    | e => if isOwn ρ e then .bad else lft ρ (ev Φ C e ρ) fun x => .go (.ret x) ρ
  | .rz c a, ρ => if eoOwn ρ a then .bad else lft ρ (evo Φ C a ρ) fun p s => .exc c p ρ s
  | .tr b hs, ρ => fun s => match exB b ρ s with
    | .exc c p ρ' s' => (match hs.find? fun h => h.1 == c with
      | none => .exc c p ρ' s'
      | some (_, i, h) => hdR c p i h ρ' s')
    | o => o
  | .brk, ρ => .go .brk ρ
  | .cont, ρ => .go .ct ρ
  | .pas, ρ => .go .nx ρ
  | .frz i s, ρ => exS s (freeze ρ (some i))
  | .apop i j e, ρ => apopS (isOwn ρ e) (ev Φ C e ρ) i j ρ
def exB : Stas → Env → SM
  | .nil, ρ => .go .nx ρ
  | .cons s r, ρ => SM.seq (exS s ρ) (exB r)
end
def slotOf : Val → Slot
  | .dat d => .dat d
  | .box => .box
  | .scr ns => .scr ns
def startE (n : Nat) (vs : List Val) : Env := vs.map slotOf ++ List.replicate (n - vs.length) .un
/-- a def of n slots, p of them parameters -/
def runFn (n p : Nat) (b : Stas) (vs : List Val) : M D := fun s => if vs.length = p then (match exB Φ C b (startE n vs) s with
  | .go (.ret d) _ s' => .ok d s'
  | .go .nx _ s' => .ok .none s'
  | .exc c q _ s' => .exc c q s'
  | _ => .bad) else .bad
end
end Pd
end
section
/-! Pd: the wishes' reckoning, and how data lie in the abstract heap. -/
namespace Pd
open PySem PySem.Spec PyProof.Rows L2

/-! ### the best reading of a piece -/
def wE (X : Cx) (e : Expr) : TE := fun σ H Q => ∃ t, PE X e t ∧ ∃ Q', t σ H Q' ∧ ∀ v H', Q' v H' → Q v H'
def wT (X : Cx) (e : Expr) : TT := fun σ H Q => ∃ t, PT X e t ∧ ∃ Q', t σ H Q' ∧ ∀ v H', Q' v H' → Q v H'
def wW (X : Cx) (e : Expr) : TT := fun σ H Q => ∃ t, PW X e t ∧ ∃ Q', t σ H Q' ∧ ∀ v H', Q' v H' → Q v H'
def wA (X : Cx) (es : List Expr) : TA := fun σ H Q => ∃ t, PA X es t ∧ ∃ Q', t σ H Q' ∧ ∀ v H', Q' v H' → Q v H'
def wS (X : Cx) (s : Stmt) : TS := fun D σ H => ∃ t, PS X s t ∧ t D σ H
def wSs (X : Cx) (s : List Stmt) : TS := fun D σ H => ∃ t, PSs X s t ∧ t D σ H
def wG (X : Cx) (g : Expr) : TG := fun v σ H Q => ∃ t, PG X g t ∧ t v σ H Q
def wI (X : Cx) (tg it : Expr) : TI := fun σ H R => ∃ t, PI X tg it t ∧ t σ H R
section
variable {X : Cx}
theorem wE_pe (e : Expr) : PE X e (wE X e) := ⟨fun pins s σ H Q I ⟨t, h, Q', q, m⟩ => thn (h.run pins s σ H Q' I q) fun u s' ⟨v, H', I', r, q'⟩ => ⟨v, H', I', r, m v H' q'⟩⟩
theorem wT_pt (e : Expr) : PT X e (wT X e) := ⟨fun pins s σ H Q I ⟨t, h, Q', q, m⟩ => thn (h.run pins s σ H Q' I q) fun u s' ⟨H', I', q'⟩ => ⟨H', I', m u H' q'⟩⟩
theorem wW_pw (e : Expr) : PW X e (wW X e) := ⟨fun wh pins s σ H Q I ⟨t, h, Q', q, m⟩ => thn (h.run wh pins s σ H Q' I q) fun u s' ⟨H', I', q'⟩ => ⟨H', I', m u H' q'⟩⟩
theorem wA_pa (es : List Expr) : PA X es (wA X es) := ⟨fun pos pins s σ H Q I ⟨t, h, Q', q, m⟩ => thn (h.run pos pins s σ H Q' I q) fun u s' ⟨v, H', I', r, q'⟩ => ⟨v, H', I', r, m v H' q'⟩⟩
theorem wS_ps (s : Stmt) : PS X s (wS X s) := ⟨fun pins s σ H D I ⟨t, h, q⟩ => h.run pins s σ H D I q⟩
theorem wSs_ps (s : List Stmt) : PSs X s (wSs X s) := ⟨fun pins s σ H D I ⟨t, h, q⟩ => h.run pins s σ H D I q⟩
theorem wG_pg (g : Expr) : PG X g (wG X g) := ⟨fun pins s σ H v u Q I r ⟨t, h, q⟩ => h.run pins s σ H v u Q I r q⟩
theorem wI_pi (tg it : Expr) : PI X tg it (wI X tg it) := ⟨fun pins s σ H R I ⟨t, h, q⟩ => h.run pins s σ H R I q⟩
theorem wE.of {e : Expr} {t : TE} {σ : L2.St} {H : Hp} {Q : VK} (h : PE X e t) (q : t σ H Q) : wE X e σ H Q := ⟨t, h, Q, q, fun _ _ z => z⟩
theorem wT.of {e : Expr} {t : TT} {σ : L2.St} {H : Hp} {Q : Bool → Hp → Prop} (h : PT X e t) (q : t σ H Q) : wT X e σ H Q := ⟨t, h, Q, q, fun _ _ z => z⟩
theorem wW.of {e : Expr} {t : TT} {σ : L2.St} {H : Hp} {Q : Bool → Hp → Prop} (h : PW X e t) (q : t σ H Q) : wW X e σ H Q := ⟨t, h, Q, q, fun _ _ z => z⟩
theorem wA.of {es : List Expr} {t : TA} {σ : L2.St} {H : Hp} {Q : List V → Hp → Prop} (h : PA X es t) (q : t σ H Q) : wA X es σ H Q := ⟨t, h, Q, q, fun _ _ z => z⟩
theorem wE.mono {e : Expr} {σ : L2.St} {H : Hp} {Q Q' : VK} (h : wE X e σ H Q) (m : ∀ v H', Q v H' → Q' v H') : wE X e σ H Q' := by
  obtain ⟨t, h, R, q, k⟩ := h
  exact ⟨t, h, R, q, fun v H' z => m v H' (k v H' z)⟩
theorem wT.mono {e : Expr} {σ : L2.St} {H : Hp} {Q Q' : Bool → Hp → Prop} (h : wT X e σ H Q) (m : ∀ v H', Q v H' → Q' v H') : wT X e σ H Q' := by
  obtain ⟨t, h, R, q, k⟩ := h
  exact ⟨t, h, R, q, fun v H' z => m v H' (k v H' z)⟩
theorem wW.mono {e : Expr} {σ : L2.St} {H : Hp} {Q Q' : Bool → Hp → Prop} (h : wW X e σ H Q) (m : ∀ v H', Q v H' → Q' v H') : wW X e σ H Q' := by
  obtain ⟨t, h, R, q, k⟩ := h
  exact ⟨t, h, R, q, fun v H' z => m v H' (k v H' z)⟩
theorem wA.mono {es : List Expr} {σ : L2.St} {H : Hp} {Q Q' : List V → Hp → Prop} (h : wA X es σ H Q) (m : ∀ v H', Q v H' → Q' v H') : wA X es σ H Q' := by
  obtain ⟨t, h, R, q, k⟩ := h
  exact ⟨t, h, R, q, fun v H' z => m v H' (k v H' z)⟩
/-- what the state says of every list and tuple -/
def Bnd (H : Hp) : Prop := ∀ a xs, (Rd H a (.lst xs) ∨ Rd H a (.tup xs)) → xs.length ≤ sizeLine
theorem bnd_of {pins : List (Addr × Obj)} {σ : L2.St} {H : Hp} {s : Shared} (I : L2.Inv X pins σ H s) : Bnd H := fun a xs h => by
  rcases h with h | h
  · exact (h.ok I.hok).1
  · exact (h.ok I.hok).1
theorem Bnd.tup {K : PySem.W.Frag} {H : Hp} (b : Bnd H) {p : Addr} {vs : List V} (h : SqT K H p vs) : vs.length ≤ sizeLine := by
  rcases h with h | ⟨o, its, n, _, _, _, hz, rv⟩
  · exact b p vs (.inr h)
  · have := rv.length
    simp only [Array.length_toList] at this
    omega
theorem wE.bnd {e : Expr} {σ : L2.St} {H : Hp} {Q : VK} (h : Bnd H → wE X e σ H Q) : wE X e σ H Q :=
  wE.of (t := fun σ H Q => Bnd H → wE X e σ H Q) ⟨fun pins s σ H Q I q => (wE_pe e).run pins s σ H Q I (q (bnd_of I))⟩ h
end

/-! ### data in the heap -/
def keyD : Key → D
  | .inl i => .int i
  | .inr x => .str x
mutual
inductive Rp (K : PySem.W.Frag) (H : Hp) : V → D → Prop
  | non : Rp K H .non .none
  | bl (b : Bool) : Rp K H (.bl b) (.bool b)
  | int (i : Int) : Rp K H (.int i) (.int i)
  | str (x : Str) : Rp K H (.str x) (.str x)
  | lst {a : Addr} {xs : List V} {ds : List D} : H a = some (.lst xs) → RpA K H xs ds → Rp K H (.ref a) (.list ds)
  | tup {a : Addr} {xs : List V} {ds : List D} : SqT K H a xs → RpA K H xs ds → Rp K H (.ref a) (.tuple ds)
  | dic {a : Addr} {kvs : List (Key × V)} {es : List (D × D)} : H a = some (.dK kvs) → RpK K H kvs es → Rp K H (.ref a) (.dict es)
inductive RpA (K : PySem.W.Frag) (H : Hp) : List V → List D → Prop
  | nil : RpA K H [] []
  | cons {v : V} {vs : List V} {d : D} {ds : List D} : Rp K H v d → RpA K H vs ds → RpA K H (v :: vs) (d :: ds)
inductive RpK (K : PySem.W.Frag) (H : Hp) : List (Key × V) → List (D × D) → Prop
  | nil : RpK K H [] []
  | cons {k : Key} {v : V} {vs : List (Key × V)} {d : D} {ds : List (D × D)} : Rp K H v d → RpK K H vs ds → RpK K H ((k, v) :: vs) ((keyD k, d) :: ds)
end
section
variable {K : PySem.W.Frag} {H H' : Hp}
theorem sqT_same {a : Addr} {xs : List V} (e : Same H H') (h : SqT K H a xs) : SqT K H' a xs := by
  rcases h with (h | ⟨o, h⟩) | h
  · exact .inl (.inl (e _ _ h))
  · exact .inl (.inr ⟨o, e _ _ h⟩)
  · exact .inr h
mutual
theorem Rp.same (e : Same H H') : ∀ {v : V} {d : D}, Rp K H v d → Rp K H' v d
  | _, _, .non => .non
  | _, _, .bl b => .bl b
  | _, _, .int i => .int i
  | _, _, .str x => .str x
  | _, _, .lst h r => .lst (e _ _ h) (RpA.same e r)
  | _, _, .tup h r => .tup (sqT_same e h) (RpA.same e r)
  | _, _, .dic h r => .dic (e _ _ h) (RpK.same e r)
theorem RpA.same (e : Same H H') : ∀ {vs : List V} {ds : List D}, RpA K H vs ds → RpA K H' vs ds
  | _, _, .nil => .nil
  | _, _, .cons h r => .cons (h.same e) (RpA.same e r)
theorem RpK.same (e : Same H H') : ∀ {vs : List (Key × V)} {ds : List (D × D)}, RpK K H vs ds → RpK K H' vs ds
  | _, _, .nil => .nil
  | _, _, .cons h r => .cons (h.same e) (RpK.same e r)
end
theorem RpA.length : ∀ {vs : List V} {ds : List D}, RpA K H vs ds → vs.length = ds.length
  | _, _, .nil => rfl
  | _, _, .cons _ r => congrArg (· + 1) r.length
theorem RpA.get : ∀ {vs : List V} {ds : List D} {i : Nat} {d : D}, RpA K H vs ds → ds[i]? = some d → ∃ v, vs[i]? = some v ∧ Rp K H v d
  | _, _, _, _, .nil, e => by simp at e
  | _, _, 0, _, .cons h _, e => by
    simp at e
    subst e
    exact ⟨_, rfl, h⟩
  | _, _, i + 1, d, .cons _ r, e => by
    obtain ⟨v, h1, h2⟩ := RpA.get (i := i) (d := d) r (by simpa using e)
    exact ⟨v, by simpa using h1, h2⟩
theorem RpA.getV : ∀ {vs : List V} {ds : List D} {i : Nat} {v : V}, RpA K H vs ds → vs[i]? = some v → ∃ d, ds[i]? = some d ∧ Rp K H v d
  | _, _, _, _, .nil, e => by simp at e
  | _, _, 0, _, .cons h _, e => by
    simp at e
    subst e
    exact ⟨_, rfl, h⟩
  | _, _, i + 1, d, .cons _ r, e => by
    obtain ⟨v, h1, h2⟩ := RpA.getV (i := i) (v := d) r (by simpa using e)
    exact ⟨v, by simpa using h1, h2⟩
theorem RpA.append : ∀ {vs ws : List V} {ds es : List D}, RpA K H vs ds → RpA K H ws es → RpA K H (vs ++ ws) (ds ++ es)
  | _, _, _, _, .nil, s => s
  | _, _, _, _, .cons h r, s => .cons h (RpA.append r s)
theorem RpA.take : ∀ {vs : List V} {ds : List D} (n : Nat), RpA K H vs ds → RpA K H (vs.take n) (ds.take n)
  | _, _, 0, _ => .nil
  | _, _, _ + 1, .nil => .nil
  | _, _, n + 1, .cons h r => .cons h (RpA.take n r)
theorem RpA.drop : ∀ {vs : List V} {ds : List D} (n : Nat), RpA K H vs ds → RpA K H (vs.drop n) (ds.drop n)
  | _, _, 0, r => r
  | _, _, _ + 1, .nil => .nil
  | _, _, n + 1, .cons _ r => RpA.drop n r
theorem RpA.set {v : V} {d : D} (h : Rp K H v d) : ∀ {vs : List V} {ds : List D} (n : Nat), RpA K H vs ds → RpA K H (vs.set n v) (ds.set n d)
  | _, _, _, .nil => .nil
  | _, _, 0, .cons _ r => .cons h r
  | _, _, n + 1, .cons q r => .cons q (RpA.set h n r)
theorem RpA.rev : ∀ {vs : List V} {ds : List D}, RpA K H vs ds → RpA K H vs.reverse ds.reverse
  | _, _, .nil => .nil
  | _, _, .cons h r => by
    rw [List.reverse_cons, List.reverse_cons]
    exact (RpA.rev r).append (.cons h .nil)
theorem RpA.nil_iff {vs : List V} {ds : List D} (r : RpA K H vs ds) : vs.isEmpty = ds.isEmpty := by
  cases r <;> rfl
mutual
theorem Rp.dp : ∀ {v : V} {d : D}, d.canLay0 = true → Rp K H v d → Dp K H v d
  | _, _, _, .non => .non
  | _, _, _, .bl b => .bl b
  | _, _, _, .int i => .int i
  | _, _, _, .str x => .str x
  | _, _, c, .lst h r => .lst (.inl (.inl h)) (RpA.dp (by simpa [PyData.canLay0] using c) r)
  | _, _, c, .tup h r => .tup h (RpA.dp (by simpa [PyData.canLay0] using c) r)
  | _, _, c, .dic h r => by simp [PyData.canLay0] at c
theorem RpA.dp : ∀ {vs : List V} {ds : List D}, PyData.canLayAll0 ds = true → RpA K H vs ds → DpAll K H vs ds
  | _, _, _, .nil => .nil
  | _, _, c, .cons h r => by
    rw [PyData.canLayAll0, Bool.and_eq_true] at c
    exact .cons (h.dp c.1) (RpA.dp c.2 r)
end
end

/-! ### what is hidden -/
def hid (M : List Addr) (H : Hp) : Hp := fun a => if a ∈ M then none else H a
section
variable {M N : List Addr} {H H' : Hp}
theorem hid_some {a : Addr} {o : HO} : (hid M H a = some o) ↔ (a ∉ M ∧ H a = some o) := by
  unfold hid
  by_cases h : a ∈ M
  · rw [if_pos h]
    exact ⟨fun z => (by cases z), fun z => absurd h z.1⟩
  · rw [if_neg h]
    exact ⟨fun z => ⟨h, z⟩, fun z => z.2⟩
theorem hid_nil : hid [] H = H := by
  funext a
  simp [hid]
theorem hid_le (h : ∀ a ∈ M, a ∈ N) : Same (hid N H) (hid M H) := fun a o e => by
  obtain ⟨h1, h2⟩ := hid_some.mp e
  exact hid_some.mpr ⟨fun z => h1 (h a z), h2⟩
theorem hid_same (h : Same (hid M H) (hid M H')) (k : ∀ a ∈ M, a ∈ N) : Same (hid N H) (hid N H') := fun a o e => by
  obtain ⟨h1, h2⟩ := hid_some.mp e
  have h3 := h a o (hid_some.mpr ⟨fun z => h1 (k a z), h2⟩)
  exact hid_some.mpr ⟨h1, (hid_some.mp h3).2⟩
theorem hid_full : Same (hid M H) H := fun a o e => (hid_some.mp e).2
end

/-! ### the box and the frame of a change -/
/-- the box, where there is one -/
def BoxAt (β : Option Addr) (H : Hp) (s : Bx) : Prop := match β with
  | none => True
  | some b => H b = some (.lst [.int s.a, .int s.b, .int s.c])
/-- from a heap to a later one: what is not in M is kept, what is in M but the box too -/
structure Kept (β : Option Addr) (M : List Addr) (H : Hp) (H' : Hp) : Prop where
  same : Same (hid M H) (hid M H')
  keep : ∀ a ∈ M, β ≠ some a → H' a = H a
structure Ext (β : Option Addr) (M : List Addr) (H : Hp) (s : Bx) (H' : Hp) (s' : Bx) : Prop extends Kept β M H H' where
  box : BoxAt β H' s'
def Live (M : List Addr) (H : Hp) : Prop := ∀ a ∈ M, ∃ o, H a = some o
section
variable {β : Option Addr} {M N : List Addr} {H H1 H2 : Hp} {s s1 s2 : Bx}
theorem Kept.refl : Kept β M H H := ⟨Same.refl _, fun _ _ _ => rfl⟩
theorem Kept.trans (a : Kept β M H H1) (b : Kept β M H1 H2) : Kept β M H H2 := ⟨a.same.trans b.same, fun x hx hb => (b.keep x hx hb).trans (a.keep x hx hb)⟩
theorem Ext.refl (b : BoxAt β H s) : Ext β M H s H s := ⟨.refl, b⟩
theorem Ext.trans (a : Ext β M H s H1 s1) (b : Ext β M H1 s1 H2 s2) : Ext β M H s H2 s2 := ⟨a.toKept.trans b.toKept, b.box⟩
/-- more may be hidden, if it was kept -/
theorem Kept.more (a : Kept β M H H1) (k : ∀ x ∈ M, x ∈ N) (q : ∀ x ∈ N, x ∉ M → ∃ o, H x = some o) : Kept β N H H1 := ⟨hid_same a.same k, fun x hx hb => by
  by_cases hm : x ∈ M
  · exact a.keep x hm hb
  · obtain ⟨o, e⟩ := q x hx hm
    have := a.same x o (hid_some.mpr ⟨hm, e⟩)
    rw [e, (hid_some.mp this).2]⟩
theorem Ext.more (a : Ext β M H s H1 s1) (k : ∀ x ∈ M, x ∈ N) (q : ∀ x ∈ N, x ∉ M → ∃ o, H x = some o) : Ext β N H s H1 s1 := ⟨a.toKept.more k q, a.box⟩
theorem Ext.live (a : Ext β M H s H1 s1) (l : Live M H) : Live M H1 := fun x hx => by
  by_cases hb : β = some x
  · have q := a.box
    rw [hb] at q
    exact ⟨_, q⟩
  · obtain ⟨o, e⟩ := l x hx
    exact ⟨o, (a.keep x hx hb).trans e⟩
/-- a new object -/
theorem Ext.new {p : Addr} {o : HO} (b : BoxAt β H s) (lv : Live M H) (hp : H p = none) : Ext β M H s (upd H p o) s := by
  refine ⟨⟨fun a u e => ?_, fun a ha hb => ?_⟩, ?_⟩
  · obtain ⟨h1, h2⟩ := hid_some.mp e
    refine hid_some.mpr ⟨h1, ?_⟩
    rw [upd_ne (ne_of_none h2 hp)]
    exact h2
  · obtain ⟨u, e⟩ := lv a ha
    exact upd_ne (ne_of_none e hp)
  · cases β with
    | none => trivial
    | some c =>
      have q : H c = some (.lst [.int s.a, .int s.b, .int s.c]) := b
      show upd H p o c = _
      rw [upd_ne (ne_of_none q hp)]
      exact q
end
end Pd
end
section
/-! Pd: operators, comparisons, items, slices by data. -/
namespace Pd
open PySem PySem.Spec PyProof.Rows L2

/-! ### the best rule of an operation -/
def wOp (X : Cx) (f : Value → Value → Sem Value) : R2 := fun x y H Q => ∃ r, OpR X f r ∧ r x y H Q
def wIx (X : Cx) : R2 := fun x y H Q => ∃ r, IxR X r ∧ r x y H Q
def wCl (X : Cx) (f : Value) : List V → Hp → VK → Prop := fun xs H Q => ∃ r, CallR X f r ∧ r xs H Q
def wSl (X : Cx) : V → Option Int → Option Int → Hp → VK → Prop := fun x l u H Q => ∃ r, SlR X r ∧ r x l u H Q
section
variable {X : Cx}
theorem wOp_op (f : Value → Value → Sem Value) : OpR X f (wOp X f) := fun pins s σ H x y v u Q I rx ry ⟨r, h, q⟩ => h pins s σ H x y v u Q I rx ry q
theorem wIx_ix : IxR X (wIx X) := fun a b pins s σ H x y v u Q I rx ry ⟨r, h, q⟩ => h a b pins s σ H x y v u Q I rx ry q
theorem wCl_call (f : Value) : CallR X f (wCl X f) := fun pins s σ H xs us Q I rs ⟨r, h, q⟩ => h pins s σ H xs us Q I rs q
theorem wSl_sl : SlR X (wSl X) := fun pins s σ H x v vl vu lo hi sl Q I rx hs pl pu ⟨r, h, q⟩ => h pins s σ H x v vl vu lo hi sl Q I rx hs pl pu q
/-- what the state says of lists may be asked by any rule -/
theorem wOp.bnd {f : Value → Value → Sem Value} {x y : V} {H : Hp} {Q : VK} (h : Bnd H → wOp X f x y H Q) : wOp X f x y H Q :=
  ⟨fun x y H Q => Bnd H → wOp X f x y H Q, fun pins s σ H x y v u Q I rx ry q => wOp_op f pins s σ H x y v u Q I rx ry (q (bnd_of I)), h⟩
theorem wCl.bnd {f : Value} {xs : List V} {H : Hp} {Q : VK} (h : Bnd H → wCl X f xs H Q) : wCl X f xs H Q :=
  ⟨fun xs H Q => Bnd H → wCl X f xs H Q, fun pins s σ H xs us Q I rs q => wCl_call f pins s σ H xs us Q I rs (q (bnd_of I)), h⟩
end

/-! ### data at hand: maybe a list that is hidden -/
inductive Rw (K : PySem.W.Frag) (β : Option Addr) (M : List Addr) (H : Hp) : V → D → Prop
  | rp {v : V} {d : D} : Rp K (hid M H) v d → Rw K β M H v d
  | own {p : Addr} {vs : List V} {ds : List D} : p ∈ M → β ≠ some p → H p = some (.lst vs) → RpA K (hid M H) vs ds → Rw K β M H (.ref p) (.list ds)
section
variable {K : PySem.W.Frag} {β : Option Addr} {M : List Addr} {H H' : Hp} {s s' : Bx} {v : V} {d : D}
theorem Rw.ext (e : Kept β M H H') (h : Rw K β M H v d) : Rw K β M H' v d := by
  cases h with
  | rp h => exact .rp (h.same e.same)
  | own h1 h2 h3 h4 => exact .own h1 h2 ((e.keep _ h1 h2).trans h3) (h4.same e.same)
theorem Rw.list {ds : List D} (h : Rw K β M H v (.list ds)) : ∃ p vs, v = .ref p ∧ H p = some (.lst vs) ∧ RpA K (hid M H) vs ds := by
  cases h with
  | rp h =>
    cases h with
    | lst h r => exact ⟨_, _, rfl, (hid_some.mp h).2, r⟩
  | own h1 h2 h3 h4 => exact ⟨_, _, rfl, h3, h4⟩
theorem Rw.tuple {ds : List D} (h : Rw K β M H v (.tuple ds)) : ∃ p vs, v = .ref p ∧ SqT K (hid M H) p vs ∧ SqT K H p vs ∧ RpA K (hid M H) vs ds := by
  cases h with
  | rp h =>
    cases h with
    | tup h r => exact ⟨_, _, rfl, h, sqT_same hid_full h, r⟩
theorem Rw.int {i : Int} (h : Rw K β M H v (.int i)) : v = .int i := by
  cases h with
  | rp h => cases h; rfl
theorem Rw.bool {i : Bool} (h : Rw K β M H v (.bool i)) : v = .bl i := by
  cases h with
  | rp h => cases h; rfl
theorem Rw.str {i : Str} (h : Rw K β M H v (.str i)) : v = .str i := by
  cases h with
  | rp h => cases h; rfl
theorem Rw.none (h : Rw K β M H v .none) : v = .non := by
  cases h with
  | rp h => cases h; rfl
theorem Rw.seq {ds : List D} (e : seqOf d = some ds) (h : Rw K β M H v d) : ∃ p vs, v = .ref p ∧ (H p = some (.lst vs) ∨ SqT K H p vs) ∧ RpA K (hid M H) vs ds := by
  cases d with
  | list xs =>
    cases e
    obtain ⟨p, vs, rfl, h1, h2⟩ := h.list
    exact ⟨p, vs, rfl, .inl h1, h2⟩
  | tuple xs =>
    cases e
    obtain ⟨p, vs, rfl, h0, h1, h2⟩ := h.tuple
    exact ⟨p, vs, rfl, .inr h1, h2⟩
  | _ => cases e
theorem Rw.dp (c : d.canLay0 = true) (h : Rw K β M H v d) : Dp K H v d := by
  cases h with
  | rp h => exact (h.same hid_full).dp c
  | own h1 h2 h3 h4 => exact .lst (.inl (.inl h3)) (RpA.dp (by simpa [PyData.canLay0] using c) (h4.same hid_full))
theorem RpA.ints {H : Hp} : ∀ {ds : List D} {vs : List V} {ns : List Int}, intsOf ds = some ns → RpA K H vs ds → vs = ns.map V.int
  | [], _, ns, e, r => by
    cases e
    cases r
    rfl
  | d :: ds, _, ns, e, r => by
    cases d with
    | int i =>
      rw [intsOf] at e
      cases q : intsOf ds with
      | none =>
        rw [q] at e
        cases e
      | some ms =>
        rw [q] at e
        cases e
        cases r with
        | cons h r =>
          cases h
          rw [RpA.ints q r]
          rfl
    | _ => simp [intsOf] at e
theorem RpA.bools {H : Hp} : ∀ {ds : List D} {vs : List V} {ns : List Bool}, boolsOf ds = some ns → RpA K H vs ds → vs = ns.map V.bl
  | [], _, ns, e, r => by
    cases e
    cases r
    rfl
  | d :: ds, _, ns, e, r => by
    cases d with
    | bool i =>
      rw [boolsOf] at e
      cases q : boolsOf ds with
      | none =>
        rw [q] at e
        cases e
      | some ms =>
        rw [q] at e
        cases e
        cases r with
        | cons h r =>
          cases h
          rw [RpA.bools q r]
          rfl
    | _ => simp [boolsOf] at e
/-- a new list, a new tuple of data at hand -/
theorem new_list {p : Addr} {vs : List V} {ds : List D} (lv : Live M H) (hp : H p = Option.none) (r : RpA K (hid M H) vs ds) : Rp K (hid M (upd H p (.lst vs))) (.ref p) (.list ds) := by
  have np : p ∉ M := fun z => by
    obtain ⟨o, e⟩ := lv p z
    rw [hp] at e
    cases e
  have sm : Same (hid M H) (hid M (upd H p (.lst vs))) := fun a u e => by
    obtain ⟨h1, h2⟩ := hid_some.mp e
    refine hid_some.mpr ⟨h1, ?_⟩
    rw [upd_ne (ne_of_none h2 hp)]
    exact h2
  exact .lst (hid_some.mpr ⟨np, upd_same⟩) (r.same sm)
theorem new_tup {p : Addr} {vs : List V} {ds : List D} (lv : Live M H) (hp : H p = Option.none) (r : RpA K (hid M H) vs ds) : Rp K (hid M (upd H p (.tup vs))) (.ref p) (.tuple ds) := by
  have np : p ∉ M := fun z => by
    obtain ⟨o, e⟩ := lv p z
    rw [hp] at e
    cases e
  have sm : Same (hid M H) (hid M (upd H p (.tup vs))) := fun a u e => by
    obtain ⟨h1, h2⟩ := hid_some.mp e
    refine hid_some.mpr ⟨h1, ?_⟩
    rw [upd_ne (ne_of_none h2 hp)]
    exact h2
  exact .tup (.inl (.inl (hid_some.mpr ⟨np, upd_same⟩))) (r.same sm)
end

section
variable {X : Cx} {β : Option Addr} {M : List Addr} {H : Hp} {s : Bx} {x y : V} {a b d : D} {Q : VK}
/-- what an operation's answer is to be -/
def Ans (K : PySem.W.Frag) (β : Option Addr) (M : List Addr) (H : Hp) (s : Bx) (d : D) (Q : VK) : Prop := ∀ v H', Ext β M H s H' s → Rp K (hid M H') v d → Q v H'
theorem Ans.here {K : PySem.W.Frag} {v : V} (q : Ans K β M H s d Q) (bx : BoxAt β H s) (r : Rp K (hid M H) v d) : Q v H := q v H (Ext.refl bx) r

theorem lt_lim {xs : List V} {ds : List D} {K : PySem.W.Frag} {H : Hp} (r : RpA K H xs ds) (h : ds.length ≤ lim) : xs.length ≤ sizeLine := by
  rw [r.length]
  exact h
theorem small_ok {i : Int} (h : small i = true) : -(2 ^ 64) < i ∧ i < 2 ^ 64 := by
  unfold small at h
  rw [Bool.and_eq_true, decide_eq_true_eq, decide_eq_true_eq] at h
  exact h
theorem op_bin {o : Operator} (bx : BoxAt β H s) (lv : Live M H) (e : binD o a b = some d) (hx : Rw X.K β M H x a) (hy : Rw X.K β M H y b) (q : Ans X.K β M H s d Q) : wOp X (binaryOp o) x y H Q := by
  unfold binD at e
  split at e
  · -- int + int
    cases e
    cases hx.int
    cases hy.int
    exact ⟨_, op_add, _, _, rfl, rfl, q.here bx (.int _)⟩
  · -- list + list
    obtain ⟨zs, e1, rfl⟩ := Option.map_eq_some_iff.mp e
    unfold catL at e1
    split at e1
    · rename_i hl
      cases e1
      obtain ⟨p, vs, rfl, h1, r1⟩ := hx.list
      obtain ⟨p2, vs2, rfl, h2, r2⟩ := hy.list
      refine ⟨_, op_cat, p, p2, vs, vs2, rfl, rfl, h1, h2, ?_, fun u hu => ?_⟩
      · rw [r1.length, r2.length]
        exact hl
      · exact q _ _ (Ext.new bx lv hu) (new_list lv hu (r1.append r2))
    · cases e1
  · -- tuple + tuple
    obtain ⟨zs, e1, rfl⟩ := Option.map_eq_some_iff.mp e
    unfold catL at e1
    split at e1
    · rename_i hl
      cases e1
      obtain ⟨p, vs, rfl, g1, h1, r1⟩ := hx.tuple
      obtain ⟨p2, vs2, rfl, g2, h2, r2⟩ := hy.tuple
      refine ⟨_, op_catA, p, p2, vs, vs2, rfl, rfl, h1, h2, ?_, ?_⟩
      · rw [r1.length, r2.length]
        exact hl
      · refine ⟨fun z => ?_, fun z1 z2 => ?_, fun _ _ u hu => ?_⟩
        · have e0 : vs = [] := z
          subst e0
          cases r1
          exact q.here bx (.tup g2 r2)
        · have e0 : vs2 = [] := z2
          subst e0
          cases r2
          refine q.here bx ?_
          rw [List.append_nil]
          exact .tup g1 r1
        · exact q _ _ (Ext.new bx lv hu) (new_tup lv hu (r1.append r2))
    · cases e1
  · -- str + str
    split at e
    · rename_i hl
      cases e
      cases hx.str
      cases hy.str
      exact ⟨_, op_add_str, _, _, rfl, rfl, hl, q.here bx (.str _)⟩
    · cases e
  · cases e
    cases hx.int
    cases hy.int
    exact ⟨_, op_sub, _, _, rfl, rfl, q.here bx (.int _)⟩
  · split at e
    · rename_i hs
      cases e
      cases hx.int
      cases hy.int
      refine ⟨_, op_mul, _, _, rfl, rfl, ?_, q.here bx (.int _)⟩
      rcases Bool.or_eq_true_iff.mp hs with z | z
      · exact .inl (small_ok z)
      · exact .inr (small_ok z)
    · cases e
  · -- list * int
    split at e
    · rename_i hs
      simp only [Bool.and_eq_true, decide_eq_true_eq] at hs
      cases e
      obtain ⟨p, vs, rfl, h1, r1⟩ := hx.list
      cases hy.int
      refine ⟨_, op_rep, _, _, _, rfl, rfl, h1, hs.1.1, hs.1.2, ?_, fun u hu => ?_⟩
      · rw [r1.length]
        exact hs.2
      · refine q _ _ (Ext.new bx lv hu) (new_list lv hu ?_)
        have rep : ∀ n : Nat, RpA X.K (hid M H) (List.replicate n vs).flatten (List.replicate n _).flatten := fun n => by
          induction n with
          | zero => exact .nil
          | succ n ih =>
            rw [List.replicate_succ, List.replicate_succ, List.flatten_cons, List.flatten_cons]
            exact r1.append ih
        exact rep _
    · cases e
  · split at e
    · rename_i hs
      cases e
      cases hx.int
      cases hy.int
      exact ⟨_, op_mod, _, _, rfl, rfl, of_decide_eq_true hs, q.here bx (.int _)⟩
    · cases e
  · split at e
    · rename_i hs
      rw [Bool.and_eq_true, decide_eq_true_eq, decide_eq_true_eq] at hs
      cases e
      cases hx.int
      cases hy.int
      exact ⟨_, op_fdiv, _, _, rfl, rfl, hs, q.here bx (.int _)⟩
    · cases e
  · split at e
    · rename_i hs
      simp only [Bool.and_eq_true, decide_eq_true_eq] at hs
      cases e
      cases hx.int
      cases hy.int
      exact ⟨_, op_pow, _, _, rfl, rfl, ⟨hs.1.1, hs.1.2, hs.2⟩, q.here bx (.int _)⟩
    · cases e
  · cases e

/-! ### comparisons -/
theorem room65 {k : Nat} (hr : Room k X.A) : X.A.units + 65 < cLine := by
  have := hr.un
  omega
theorem lt_fin {v u : V} {pins : List (Addr × Obj)} {σ : L2.St} {sh : Shared} {vv uu : Value} {Q : VK} {H : Hp} {da db : D} {k : Nat} (hr : Room k X.A) (I : L2.Inv X pins σ H sh) (rv : RelV v vv) (ru : RelV u uu) (ha : Dp X.K H v da) (hb : Dp X.K H u db)
    (al : W.alike da db = true) (nn : da ≠ .none) (sa : SeqAt.shaped da = true) (q : Q (.bl (W.dataLt da db)) H) : wpAny (model X.prog X.w) X.A (richCompare .Lt vv uu) (EP X pins σ Q) X.xe sh := by
  obtain ⟨as, r1⟩ := Dp.reads I da v vv ha rv
  obtain ⟨bs, r2⟩ := Dp.reads I db u uu hb ru
  refine W.rcLt_alike da db X.A sh vv uu as bs r1 r2 al nn ?_ _ _ _ _ ⟨.bl _, H, I, rfl, q⟩
  have h1 := SeqAt.depth_of_shaped sa
  have h2 : min da.depth db.depth ≤ da.depth := Nat.min_le_left _ _
  have := hr.un
  omega
theorem sc_eq {x y : V} (h : scal x y = true) (q : ∀ b, b = decide (x = y) → Q (.bl b) H) : wOp X (compareOp .Eq) x y H Q := ⟨_, op_eq, h, q _ rfl⟩
theorem sc_ne {x y : V} (h : scal x y = true) (q : ∀ b, b = (!decide (x = y)) → Q (.bl b) H) : wOp X (compareOp .NotEq) x y H Q := ⟨_, op_ne, h, q _ rfl⟩
theorem op_eqq {k : Nat} (hr : Room k X.A) {c : Bool} (e : eqD a b = some c) (hx : Rw X.K β M H x a) (hy : Rw X.K β M H y b) (q : Q (.bl c) H) : wOp X (compareOp .Eq) x y H Q := by
  have big : (if shp a && shp b then some (PyData.eqv a b) else none) = some c → wOp X (compareOp .Eq) x y H Q := fun e => by
    split at e
    · rename_i hs
      rw [Bool.and_eq_true] at hs
      cases e
      exact ⟨_, op_eqD hr.units, a, b, hx.dp (SeqAt.canLay_of_shaped hs.1), hy.dp (SeqAt.canLay_of_shaped hs.2), hs.1, hs.2, q⟩
    · cases e
  unfold eqD at e
  split at e
  · cases e; cases hx.none; cases hy.none
    exact sc_eq rfl fun b h => by rw [h]; simpa using q
  · cases e; cases hx.none; cases hy.int
    exact sc_eq rfl fun b h => by rw [h]; simpa using q
  · cases e; cases hx.int; cases hy.none
    exact sc_eq rfl fun b h => by rw [h]; simpa using q
  · cases e; cases hx.none; cases hy.bool
    exact sc_eq rfl fun b h => by rw [h]; simpa using q
  · cases e; cases hx.bool; cases hy.none
    exact sc_eq rfl fun b h => by rw [h]; simpa using q
  · cases e; cases hx.none; cases hy.str
    exact sc_eq rfl fun b h => by rw [h]; simpa using q
  · cases e; cases hx.str; cases hy.none
    exact sc_eq rfl fun b h => by rw [h]; simpa using q
  · cases e; cases hx.int; cases hy.int
    exact sc_eq rfl fun b h => by rw [h, dec_int]; exact q
  · cases e; cases hx.bool; cases hy.bool
    exact sc_eq rfl fun b h => by rw [h, dec_bl]; exact q
  · cases e; cases hx.str; cases hy.str
    exact sc_eq rfl fun b h => by rw [h, dec_str]; exact q
  · exact big e
theorem op_neq {k : Nat} (hr : Room k X.A) {c : Bool} (e : eqD a b = some c) (hx : Rw X.K β M H x a) (hy : Rw X.K β M H y b) (q : Q (.bl (!c)) H) : wOp X (compareOp .NotEq) x y H Q := by
  have big : (if shp a && shp b then some (PyData.eqv a b) else none) = some c → wOp X (compareOp .NotEq) x y H Q := fun e => by
    split at e
    · rename_i hs
      rw [Bool.and_eq_true] at hs
      cases e
      exact ⟨_, op_neD hr.units, a, b, hx.dp (SeqAt.canLay_of_shaped hs.1), hy.dp (SeqAt.canLay_of_shaped hs.2), hs.1, hs.2, q⟩
    · cases e
  unfold eqD at e
  split at e
  · cases e; cases hx.none; cases hy.none
    exact sc_ne rfl fun b h => by rw [h]; simpa using q
  · cases e; cases hx.none; cases hy.int
    exact sc_ne rfl fun b h => by rw [h]; simpa using q
  · cases e; cases hx.int; cases hy.none
    exact sc_ne rfl fun b h => by rw [h]; simpa using q
  · cases e; cases hx.none; cases hy.bool
    exact sc_ne rfl fun b h => by rw [h]; simpa using q
  · cases e; cases hx.bool; cases hy.none
    exact sc_ne rfl fun b h => by rw [h]; simpa using q
  · cases e; cases hx.none; cases hy.str
    exact sc_ne rfl fun b h => by rw [h]; simpa using q
  · cases e; cases hx.str; cases hy.none
    exact sc_ne rfl fun b h => by rw [h]; simpa using q
  · cases e; cases hx.int; cases hy.int
    exact sc_ne rfl fun b h => by rw [h, dec_int]; exact q
  · cases e; cases hx.bool; cases hy.bool
    exact sc_ne rfl fun b h => by rw [h, dec_bl]; exact q
  · cases e; cases hx.str; cases hy.str
    exact sc_ne rfl fun b h => by rw [h, dec_str]; exact q
  · exact big e
theorem op_ltt {k : Nat} (hr : Room k X.A) {c : Bool} (e : ltD a b = some c) (hx : Rw X.K β M H x a) (hy : Rw X.K β M H y b) (q : Q (.bl c) H) : wOp X (compareOp .Lt) x y H Q := by
  unfold ltD at e
  split at e
  · cases e; cases hx.int; cases hy.int
    exact ⟨_, op_lt, _, _, rfl, rfl, q⟩
  · cases e; cases hx.str; cases hy.str
    exact ⟨_, op_lt_str, _, _, rfl, rfl, q⟩
  · rename_i xs ys
    split at e
    · rename_i hs
      simp only [Bool.and_eq_true] at hs
      cases e
      refine ⟨fun x y H Q => Dp X.K H x (.tuple xs) ∧ Dp X.K H y (.tuple ys) ∧ Q (.bl (W.dataLt (.tuple xs) (.tuple ys))) H, ?_, hx.dp (SeqAt.canLay_of_shaped hs.1.2), hy.dp (SeqAt.canLay_of_shaped hs.2), q⟩
      intro pins s2 σ H2 x2 y2 v u Q2 I rx ry ⟨h1, h2, q2⟩
      exact lt_fin hr I rx ry h1 h2 hs.1.1 (fun z => nomatch z) hs.1.2 q2
    · cases e
  · cases e
/-- in, for lists and tuples -/
theorem op_inSeq {k : Nat} (hr : Room k X.A) {ds : List D} (e : seqOf b = some ds) (sx : shp a = true) (sb : shp b = true) (hx : Rw X.K β M H x a) (hy : Rw X.K β M H y b) (q : Q (.bl (ds.any fun z => PyData.eqv z a)) H) : wOp X (compareOp .In) x y H Q := by
  have hu := room65 hr
  refine ⟨fun x y H Q => Dp X.K H x a ∧ Dp X.K H y b ∧ Q (.bl (ds.any fun z => PyData.eqv z a)) H, ?_, hx.dp (SeqAt.canLay_of_shaped sx), hy.dp (SeqAt.canLay_of_shaped sb), q⟩
  intro pins s2 σ H2 x2 y2 v u Q2 I rx ry ⟨h1, h2, q2⟩
  obtain ⟨as, r1⟩ := Dp.reads I a x2 v h1 rx
  obtain ⟨bs, r2⟩ := Dp.reads I b y2 u h2 ry
  cases b with
  | list ys =>
    cases e
    exact SeqAt.in_list_reads r2 r1 (by simpa [PyData.canLay0] using SeqAt.canLay_of_shaped sb) (SeqAt.canLay_of_shaped sx) (PyProof.Rows.room_in_shaped sx hu) ⟨.bl _, H2, I, rfl, q2⟩
  | tuple ys =>
    cases e
    exact SeqAt.in_tuple_reads r2 r1 (by simpa [PyData.canLay0] using SeqAt.canLay_of_shaped sb) (SeqAt.canLay_of_shaped sx) (PyProof.Rows.room_in_shaped sx hu) ⟨.bl _, H2, I, rfl, q2⟩
  | _ => cases e
theorem op_ninSeq {k : Nat} (hr : Room k X.A) {ds : List D} (e : seqOf b = some ds) (sx : shp a = true) (sb : shp b = true) (hx : Rw X.K β M H x a) (hy : Rw X.K β M H y b) (q : Q (.bl (!ds.any fun z => PyData.eqv z a)) H) : wOp X (compareOp .NotIn) x y H Q := by
  have hu := room65 hr
  refine ⟨fun x y H Q => Dp X.K H x a ∧ Dp X.K H y b ∧ Q (.bl (!ds.any fun z => PyData.eqv z a)) H, ?_, hx.dp (SeqAt.canLay_of_shaped sx), hy.dp (SeqAt.canLay_of_shaped sb), q⟩
  intro pins s2 σ H2 x2 y2 v u Q2 I rx ry ⟨h1, h2, q2⟩
  obtain ⟨as, r1⟩ := Dp.reads I a x2 v h1 rx
  obtain ⟨bs, r2⟩ := Dp.reads I b y2 u h2 ry
  cases b with
  | list ys =>
    cases e
    exact SeqAt.notIn_list_reads r2 r1 (by simpa [PyData.canLay0] using SeqAt.canLay_of_shaped sb) (SeqAt.canLay_of_shaped sx) (PyProof.Rows.room_in_shaped sx hu) ⟨.bl _, H2, I, rfl, q2⟩
  | tuple ys =>
    cases e
    exact SeqAt.notIn_tuple_reads r2 r1 (by simpa [PyData.canLay0] using SeqAt.canLay_of_shaped sb) (SeqAt.canLay_of_shaped sx) (PyProof.Rows.room_in_shaped sx hu) ⟨.bl _, H2, I, rfl, q2⟩
  | _ => cases e
/-- is there a dict on the right of in -/
def isDict : D → Bool
  | .dict _ => true
  | _ => false
theorem op_cmpp {k : Nat} (hr : Room k X.A) {o : CmpOp} {c : Bool} (e : cmpD o a b = some c) (nd : isDict b = false ∨ (o ≠ .In ∧ o ≠ .NotIn)) (hx : Rw X.K β M H x a) (hy : Rw X.K β M H y b) (q : Q (.bl c) H) : wOp X (compareOp o) x y H Q := by
  cases o with
  | Eq => exact op_eqq hr e hx hy q
  | NotEq =>
    obtain ⟨c', e1, rfl⟩ := Option.map_eq_some_iff.mp e
    exact op_neq hr e1 hx hy q
  | Lt => exact op_ltt hr e hx hy q
  | Gt =>
    unfold cmpD at e
    dsimp only at e
    split at e
    · cases e; cases hx.int; cases hy.int
      exact ⟨_, op_gt, _, _, rfl, rfl, q⟩
    · cases e; cases hx.str; cases hy.str
      exact ⟨_, op_gt_str, _, _, rfl, rfl, q⟩
    · cases e
  | LtE =>
    unfold cmpD at e
    dsimp only at e
    split at e
    · cases e; cases hx.int; cases hy.int
      exact ⟨_, op_le, _, _, rfl, rfl, q⟩
    · cases e
  | GtE =>
    unfold cmpD at e
    dsimp only at e
    split at e
    · cases e; cases hx.int; cases hy.int
      exact ⟨_, op_ge, _, _, rfl, rfl, q⟩
    · cases e
  | Is =>
    unfold cmpD at e
    dsimp only at e
    split at e
    · cases hy.none
      cases e
      refine ⟨_, op_isN, rfl, ?_⟩
      cases a with
      | none => cases hx.none; simpa using q
      | bool i => cases hx.bool; simpa using q
      | int i => cases hx.int; simpa using q
      | str i => cases hx.str; simpa using q
      | list xs => obtain ⟨p, vs, rfl, _⟩ := hx.list; simpa using q
      | tuple xs => obtain ⟨p, vs, rfl, _⟩ := hx.tuple; simpa using q
      | dict xs =>
        cases hx with
        | rp hx => cases hx; simpa using q
    · cases e
  | IsNot =>
    unfold cmpD at e
    dsimp only at e
    split at e
    · cases hy.none
      cases e
      refine ⟨_, op_notN, rfl, ?_⟩
      cases a with
      | none => cases hx.none; simpa using q
      | bool i => cases hx.bool; simpa using q
      | int i => cases hx.int; simpa using q
      | str i => cases hx.str; simpa using q
      | list xs => obtain ⟨p, vs, rfl, _⟩ := hx.list; simpa using q
      | tuple xs => obtain ⟨p, vs, rfl, _⟩ := hx.tuple; simpa using q
      | dict xs =>
        cases hx with
        | rp hx => cases hx; simpa using q
    · cases e
  | In =>
    have nd : isDict b = false := nd.resolve_right fun z => z.1 rfl
    have e : inD a b = some c := e
    unfold inD at e
    split at e
    · split at e
      · rename_i hs
        rw [Bool.and_eq_true] at hs
        cases e
        exact op_inSeq hr rfl hs.1 hs.2 hx hy q
      · cases e
    · split at e
      · rename_i hs
        rw [Bool.and_eq_true] at hs
        cases e
        exact op_inSeq hr rfl hs.1 hs.2 hx hy q
      · cases e
    · split at e
      · cases e; cases hx.str; cases hy.str
        exact ⟨_, op_in_str, _, _, rfl, rfl, q⟩
      · cases e
    · simp [isDict] at nd
    · cases e
  | NotIn =>
    have nd : isDict b = false := nd.resolve_right fun z => z.2 rfl
    obtain ⟨c', e3, rfl⟩ := Option.map_eq_some_iff.mp (show (inD a b).map not = some c from e)
    unfold inD at e3
    split at e3
    · split at e3
      · rename_i hs
        rw [Bool.and_eq_true] at hs
        cases e3
        exact op_ninSeq hr rfl hs.1 hs.2 hx hy q
      · cases e3
    · split at e3
      · rename_i hs
        rw [Bool.and_eq_true] at hs
        cases e3
        exact op_ninSeq hr rfl hs.1 hs.2 hx hy q
      · cases e3
    · split at e3
      · cases e3; cases hx.str; cases hy.str
        exact ⟨_, op_notIn_str, _, _, rfl, rfl, q⟩
      · cases e3
    · simp [isDict] at nd
    · cases e3
end
end Pd
end
section
/-! Pd: items, slices, built-ins by data. -/
namespace Pd
open PySem PySem.Spec PyProof.Rows L2
section
variable {X : Cx} {β : Option Addr} {M : List Addr} {H : Hp} {s : Bx} {x y : V} {a b d : D} {Q : VK}
theorem ixN_lt {n : Nat} {i : Int} {p : Nat} (h : ixN n i = some p) : p < n := by
  unfold ixN at h
  split at h
  · split at h
    · cases h; omega
    · cases h
  · split at h
    · cases h; omega
    · cases h
theorem atI_get {K : PySem.W.Frag} {H : Hp} {vs : List V} {ds : List D} {i : Int} {d : D} (r : RpA K H vs ds) (e : atI ds i = some d) : ∃ v, atI vs i = some v ∧ Rp K H v d := by
  unfold atI at e ⊢
  rw [r.length]
  cases q : ixN ds.length i with
  | none => rw [q] at e; cases e
  | some p =>
    rw [q] at e
    exact r.get e
/-- an item of a list, a tuple, a text -/
theorem op_item (bx : BoxAt β H s) (e : idxD a b = some d) (nd : isDict a = false) (hx : Rw X.K β M H x a) (hy : Rw X.K β M H y b) (q : Ans X.K β M H s d Q) : wIx X x y H Q := by
  unfold idxD at e
  split at e
  · obtain ⟨p, vs, rfl, h1, r1⟩ := hx.list
    cases hy.int
    obtain ⟨v, h2, r2⟩ := atI_get r1 e
    exact ⟨_, ix_list, _, _, _, _, rfl, rfl, .inl (.inl h1), h2, q.here bx r2⟩
  · obtain ⟨p, vs, rfl, g1, h1, r1⟩ := hx.tuple
    cases hy.int
    obtain ⟨v, h2, r2⟩ := atI_get r1 e
    exact ⟨_, ix_tup, _, _, _, _, rfl, rfl, h1, h2, q.here bx r2⟩
  · split at e
    · rename_i hl
      obtain ⟨c, e1, rfl⟩ := Option.map_eq_some_iff.mp e
      cases hx.str
      cases hy.int
      exact ⟨_, ix_str, _, _, _, rfl, rfl, hl, e1, q.here bx (.str _)⟩
    · cases e
  · simp [isDict] at nd
  · cases e
theorem cut_rp {K : PySem.W.Frag} {H : Hp} {vs : List V} {ds : List D} (r : RpA K H vs ds) (lo hi : Option Int) : RpA K H (cutV vs lo hi) (cutL ds lo hi) := by
  unfold cutV cutL
  rw [r.length]
  exact (r.drop _).take _
/-- a slice -/
theorem op_slice (bx : BoxAt β H s) (lv : Live M H) {lo hi : Option Int} (e : slcD a lo hi = some d) (hx : Rw X.K β M H x a) (q : Ans X.K β M H s d Q) : wSl X x lo hi H Q := by
  unfold slcD at e
  split at e
  · cases e
    obtain ⟨p, vs, rfl, h1, r1⟩ := hx.list
    exact ⟨_, sl_list, p, vs, rfl, .inl (.inl h1), fun u hu => q _ _ (Ext.new bx lv hu) (new_list lv hu (cut_rp r1 lo hi))⟩
  · cases e
    obtain ⟨p, vs, rfl, g1, h1, r1⟩ := hx.tuple
    refine ⟨_, sl_tupA, p, vs, rfl, h1, fun z => q.here bx ?_, fun _ u hu => q _ _ (Ext.new bx lv hu) (new_tup lv hu (cut_rp r1 lo hi))⟩
    have e : cutV vs lo hi = vs := by
      unfold cutV
      rw [z.1, z.2, List.drop_zero, Nat.sub_zero, List.take_length]
    have r2 := cut_rp r1 lo hi
    rw [e] at r2
    exact .tup g1 r2
  · cases e

theorem rp_signs {K : PySem.W.Frag} {H : Hp} : ∀ cs : List Nat, RpA K H (cs.map fun c => V.str ⟨#[c]⟩) (cs.map fun c => PyData.str ⟨#[c]⟩)
  | [] => .nil
  | c :: r => .cons (.str _) (rp_signs r)
/-- tuple(text) -/
theorem call_tupS {X : Cx} (hc : X.calm = true) : CallR X (.type "tuple") (fun xs H Q => ∃ z, xs = [.str z] ∧ z.cps.size ≤ sizeLine ∧ ∀ l, H l = none → Q (.ref l) (upd H l (.tup (z.cps.toList.map fun c => .str ⟨#[c]⟩)))) := by
  intro pins s σ H xs us Q I r h
  obtain ⟨z, rfl, hz, q⟩ := h
  obtain ⟨u, rfl, t, rfl⟩ := vals1 r
  refine PySem.call_tuple_str (I.ok.hd hc) z t (fun h' tk acc kp it => ?_) hz
  have I1 : Inv X pins σ H { s with heap := h', toks := tk } := I.kept (t' := tk) kp
  have rv : Vals (z.cps.toList.map fun c => V.str ⟨#[c]⟩) acc.toList := by
    obtain ⟨h1, h2⟩ := it
    have e : acc.toList = (List.range z.cps.size).map fun i => acc[i]?.getD .none := by
      apply List.ext_getElem?
      intro i
      rw [List.getElem?_map]
      by_cases hi : i < z.cps.size
      · rw [List.getElem?_range hi]
        have : i < acc.size := by omega
        simp [this]
      · rw [List.getElem?_eq_none (by simp; omega), List.getElem?_eq_none (by simp; omega)]
        rfl
    have e2 : (z.cps.toList.map fun c => V.str ⟨#[c]⟩) = (List.range z.cps.size).map fun i => V.str ⟨#[z.cps[i]?.getD 0]⟩ := by
      apply List.ext_getElem?
      intro i
      rw [List.getElem?_map, List.getElem?_map]
      by_cases hi : i < z.cps.size
      · rw [List.getElem?_range hi]
        simp [hi]
      · rw [List.getElem?_eq_none (by simp; omega), List.getElem?_eq_none (by simp; omega)]
        rfl
    rw [e, e2]
    have : ∀ l : List Nat, (∀ i ∈ l, i < z.cps.size) → Vals (l.map fun i => V.str ⟨#[z.cps[i]?.getD 0]⟩) (l.map fun i => acc[i]?.getD .none) := by
      intro l
      induction l with
      | nil => exact fun _ => .nil
      | cons i l ih =>
        intro hl
        have hi := hl i List.mem_cons_self
        have hia : i < acc.size := by omega
        obtain ⟨c, u, g1, g2⟩ := h2 i acc[i] (by simp [hia])
        refine .cons ?_ (ih fun j hj => hl j (List.mem_cons_of_mem _ hj))
        dsimp only
        rw [g1]
        have : acc[i]?.getD Value.none = acc[i] := by simp [hia]
        rw [this, g2]
        exact ⟨u, rfl⟩
    exact this _ fun i hi => List.mem_range.mp hi
  have I2 : Inv X pins σ (upd H h'.objs.size (.tup (z.cps.toList.map fun c => .str ⟨#[c]⟩))) { s with heap := h'.push { cls := .type "tuple", data := .seq acc }, toks := tk } :=
    I1.laid (t' := tk) (fun b o e => Heap.get?_push_of_some _ e) (Nat.le_refl _) (show ObjOk X.prog X.w _ _ _ (.tup _) from ⟨by simpa using hz, acc.toList, rv, by have := IsTup.new h' acc.toList.toArray; simpa using this⟩)
  exact ⟨.ref h'.objs.size, _, I2, rfl, q _ (I1.hok.fresh (Nat.le_refl _))⟩
/-- built-ins of one argument -/
theorem op_bi {k : Nat} (hr : Room k X.A) (hc : X.calm = true) {o : Bi} {f : Value} (ef : (o, f) ∈ ([(.len, .builtin "len"), (.abs, .builtin "abs"), (.int, .type "int"), (.list, .type "list"), (.tuple, .type "tuple"), (.all, .builtin "all"), (.any, .builtin "any")] : List (Bi × Value)))
    (bx : BoxAt β H s) (lv : Live M H) (e : biD o a = some d) (hx : Rw X.K β M H x a) (q : Ans X.K β M H s d Q) : wCl X f [x] H Q := by
  simp only [List.mem_cons, Prod.mk.injEq, List.mem_nil_iff, or_false] at ef
  rcases ef with ⟨rfl, rfl⟩ | ⟨rfl, rfl⟩ | ⟨rfl, rfl⟩ | ⟨rfl, rfl⟩ | ⟨rfl, rfl⟩ | ⟨rfl, rfl⟩ | ⟨rfl, rfl⟩
  · cases a with
    | list xs =>
      cases e
      obtain ⟨p, vs, rfl, h1, r1⟩ := hx.list
      refine ⟨_, call_len_seq, p, vs, rfl, .inl (.inl (.inl h1)), ?_⟩
      rw [r1.length]
      exact q.here bx (.int _)
    | tuple xs =>
      cases e
      obtain ⟨p, vs, rfl, g1, h1, r1⟩ := hx.tuple
      refine ⟨_, call_len_seq, p, vs, rfl, .inr h1, ?_⟩
      rw [r1.length]
      exact q.here bx (.int _)
    | str z =>
      unfold biD at e
      dsimp only at e
      split at e
      · rename_i hl
        cases e
        cases hx.str
        exact ⟨_, call_len_str, _, rfl, hl, q.here bx (.int _)⟩
      · cases e
    | _ => cases e
  · cases a with
    | int i =>
      cases e
      cases hx.int
      exact ⟨_, call_abs, i, rfl, q.here bx (.int _)⟩
    | _ => cases e
  · cases a with
    | int i =>
      cases e
      cases hx.int
      exact ⟨_, call_int1, .inl ⟨i, rfl, q.here bx (.int _)⟩⟩
    | bool i =>
      cases e
      cases hx.bool
      exact ⟨_, call_int1, .inr ⟨i, rfl, q.here bx (by cases i <;> exact .int _)⟩⟩
    | _ => cases e
  · cases a with
    | list xs =>
      cases e
      obtain ⟨p, vs, rfl, h1, r1⟩ := hx.list
      exact ⟨_, call_list_of, p, vs, rfl, .inl (.inl (.inl h1)), fun u hu => q _ _ (Ext.new bx lv hu) (new_list lv hu r1)⟩
    | tuple xs =>
      cases e
      obtain ⟨p, vs, rfl, g1, h1, r1⟩ := hx.tuple
      exact ⟨_, call_list_of, p, vs, rfl, .inr h1, fun u hu => q _ _ (Ext.new bx lv hu) (new_list lv hu r1)⟩
    | _ => cases e
  · cases a with
    | list xs =>
      cases e
      obtain ⟨p, vs, rfl, h1, r1⟩ := hx.list
      exact ⟨_, call_tuple_of, p, vs, rfl, .inl ⟨.inl (.inl h1), fun u hu => q _ _ (Ext.new bx lv hu) (new_tup lv hu r1)⟩⟩
    | tuple xs =>
      cases e
      obtain ⟨p, vs, rfl, g1, h1, r1⟩ := hx.tuple
      exact ⟨_, call_tuple_of, p, vs, rfl, .inr ⟨h1, q.here bx (.tup g1 r1)⟩⟩
    | str z =>
      unfold biD at e
      dsimp only at e
      split at e
      · rename_i hl
        cases e
        cases hx.str
        refine ⟨_, call_tupS hc, z, rfl, hl, fun u hu => q _ _ (Ext.new bx lv hu) (new_tup lv hu (rp_signs _))⟩
      · cases e
    | _ => cases e
  · cases a with
    | list xs =>
      obtain ⟨bs, e1, rfl⟩ := Option.map_eq_some_iff.mp e
      obtain ⟨p, vs, rfl, h1, r1⟩ := hx.list
      have e2 := RpA.bools e1 r1
      subst e2
      exact ⟨_, cr_all hc, p, bs, rfl, .inl (.inl h1), q.here bx (.bl _)⟩
    | _ => cases e
  · cases a with
    | list xs =>
      obtain ⟨bs, e1, rfl⟩ := Option.map_eq_some_iff.mp e
      obtain ⟨p, vs, rfl, h1, r1⟩ := hx.list
      have e2 := RpA.bools e1 r1
      subst e2
      exact ⟨_, cr_any hc, p, bs, rfl, .inl (.inl h1), q.here bx (.bl _)⟩
    | _ => cases e
end
end Pd
end
section
/-! Pd: sorted, by data. -/
namespace Pd
open PySem PySem.Spec PyProof.Rows L2

/-! ### straight insertion is the sort -/
section
variable {α : Type} {le : α → α → Bool}
def insB (le : α → α → Bool) (x : α) : List α → List α
  | [] => [x]
  | y :: r => if le x y then x :: y :: r else y :: insB le x r
def isortB (le : α → α → Bool) : List α → List α
  | [] => []
  | x :: r => insB le x (isortB le r)
theorem insB_perm (x : α) : ∀ l : List α, (insB le x l).Perm (x :: l)
  | [] => .refl _
  | y :: r => by
    unfold insB
    split
    · exact .refl _
    · exact ((insB_perm x r).cons y).trans (.swap x y r)
theorem isortB_perm : ∀ l : List α, (isortB le l).Perm l
  | [] => .refl _
  | x :: r => (insB_perm x _).trans ((isortB_perm r).cons x)
theorem insB_sorted (T : W.TotalLe le) (x : α) : ∀ l : List α, l.Pairwise (fun a b => le a b = true) → (insB le x l).Pairwise (fun a b => le a b = true)
  | [], _ => List.pairwise_singleton _ _
  | y :: r, h => by
    obtain ⟨h1, h2⟩ := List.pairwise_cons.mp h
    unfold insB
    split
    · rename_i c
      refine List.pairwise_cons.mpr ⟨fun z hz => ?_, h⟩
      rcases List.mem_cons.mp hz with rfl | hz
      · exact c
      · exact T.trans _ _ _ c (h1 z hz)
    · rename_i c
      have c' : le y x = true := (T.total x y).resolve_left c
      refine List.pairwise_cons.mpr ⟨fun z hz => ?_, insB_sorted T x r h2⟩
      rcases List.mem_cons.mp ((insB_perm x r).mem_iff.mp hz) with rfl | hz
      · exact c'
      · exact h1 z hz
theorem isortB_sorted (T : W.TotalLe le) : ∀ l : List α, (isortB le l).Pairwise (fun a b => le a b = true)
  | [] => .nil
  | x :: r => insB_sorted T x _ (isortB_sorted T r)
theorem insB_rank (T : W.TotalLe le) (c x : α) : ∀ l : List α, (insB le x l).filter (W.sameRank le c) = (x :: l).filter (W.sameRank le c)
  | [] => rfl
  | y :: r => by
    unfold insB
    split
    · rfl
    · rename_i n
      rw [List.filter_cons, insB_rank T c x r]
      by_cases hx : W.sameRank le c x = true
      · have hy : ¬ W.sameRank le c y = true := fun hy => by
          unfold W.sameRank at hx hy
          rw [Bool.and_eq_true] at hx hy
          exact n (T.trans _ _ _ hx.2 hy.1)
        rw [if_neg hy, List.filter_cons, if_pos hx, List.filter_cons, if_pos hx, List.filter_cons, if_neg hy]
      · rw [List.filter_cons, if_neg hx, List.filter_cons, if_neg hx, List.filter_cons]
theorem isortB_rank (T : W.TotalLe le) (c : α) : ∀ l : List α, (isortB le l).filter (W.sameRank le c) = l.filter (W.sameRank le c)
  | [] => rfl
  | x :: r => by
    show (insB le x (isortB le r)).filter _ = _
    rw [insB_rank T, List.filter_cons, List.filter_cons, isortB_rank T c r]
theorem isortB_eq (T : W.TotalLe le) (l : List α) : isortB le l = l.mergeSort le := W.sort_unique T (isortB_sorted T l) fun c => isortB_rank T c l
end
theorem le_lt (x y : D) : W.dataLe false id x y = !W.dataLt y x := rfl
theorem insD_eq (x : D) : ∀ l : List D, insD x l = insB (W.dataLe false id) x l
  | [] => rfl
  | y :: r => by
    unfold insD insB
    rw [le_lt, insD_eq x r]
    cases W.dataLt y x <;> rfl
theorem isortD_eqB : ∀ l : List D, isortD l = isortB (W.dataLe false id) l
  | [] => rfl
  | x :: r => by
    show insD x (isortD r) = insB _ x (isortB _ r)
    rw [isortD_eqB r, insD_eq]
theorem totD : W.TotalLe (W.dataLe false (id : D → D)) := W.sortLe_total _ _ _
theorem isortD_eq (l : List D) : isortD l = l.mergeSort (W.dataLe false id) := (isortD_eqB l).trans (isortB_eq totD l)

/-! ### each value by its data -/
section
variable {K : PySem.W.Frag} {H : Hp}
def ValD (K : PySem.W.Frag) (H : Hp) (u : Value) (d : D) : Prop := ∃ v, RelV v u ∧ Rp K H v d
theorem valD_of : ∀ {vs : List V} {us : List Value} {ds : List D}, RpA K H vs ds → Vals vs us → W.EachIs (ValD K H) us ds
  | _, _, _, .nil, .nil => .nil
  | _, _, _, .cons h r, .cons q t => .cons ⟨_, q, h⟩ (valD_of r t)
theorem of_valD : ∀ {us : List Value} {ds : List D}, W.EachIs (ValD K H) us ds → ∃ vs, Vals vs us ∧ RpA K H vs ds
  | _, _, .nil => ⟨[], .nil, .nil⟩
  | _, _, .cons ⟨v, q, h⟩ t => by
    obtain ⟨vs, q', r⟩ := of_valD t
    exact ⟨v :: vs, .cons q q', .cons h r⟩
end
theorem al_ok {xs : List D} (h : alikeB xs = true) : W.AllAlike xs := fun d hd d' hd' => List.all_eq_true.mp (List.all_eq_true.mp h d hd) d' hd'
theorem kinds_ok {xs : List D} (h : kindsB xs = true) : W.Sortable xs := by
  unfold kindsB at h
  rcases Bool.or_eq_true_iff.mp h with h | h
  · refine .inl fun d hd => ?_
    have q := List.all_eq_true.mp h d hd
    split at q
    · exact ⟨_, _, rfl⟩
    · cases q
  · refine .inr fun d hd => ?_
    have q := List.all_eq_true.mp h d hd
    split at q
    · exact ⟨fun z => (by cases z), fun _ z => (by cases z)⟩
    · exact ⟨fun z => (by cases z), fun _ z => (by cases z)⟩
    · exact ⟨fun z => (by cases z), fun _ z => (by cases z)⟩
    · exact ⟨fun z => (by cases z), fun _ z => (by cases z)⟩
    · cases q

section
variable {X : Cx} {pins : List (Addr × Obj)} {σ : L2.St} {H : Hp} {s : Shared} {E : Value → Shared → Prop}
/-- sorted(v), where v's items are collected somehow -/
theorem sorted_by {k : Nat} (hr : Room k X.A) {v : Value} {M : List Addr} (Ok : List D → Prop) (I : L2.Inv X pins σ H s) (al : ∀ ds, Ok ds → W.AllAlike ds) (so : ∀ ds, Ok ds → W.Sortable ds) (sh : ∀ ds, Ok ds → ∀ d ∈ ds, shp d = true) (hl : ∀ ds, Ok ds → ds.length ≤ sizeLine)
    (hc : ∀ Qc : List Value → Shared → Prop, (∀ s1 us ds, Ok ds → (∀ b o, s.heap.get? b = some o → s1.heap.get? b = some o) → s1.gens = s.gens → s1.os = s.os → W.EachIs (ValD X.K (hid M H)) us ds → Qc us s1) →
      wpAny (model X.prog X.w) X.A.in1 (PySem.collect v) Qc X.xe s)
    {Q : Value → Shared → Prop} (hQ : ∀ s' p xs ds, Ok ds → L2.Inv X pins σ (upd H p (.lst xs)) s' → H p = none → RpA X.K (hid M H) xs (isortD ds) → Q (.ref p) s') : wpAny (model X.prog X.w) X.A (call (.builtin "sorted") [v]) Q X.xe s := by
  refine Calls.call_function_entry kind_sorted plain_sorted entry_sorted (args_sorted1 _) ?_
  unfold Builtin.«sorted»
  refine wpAny_bind (m := checkCount "sorted" 1 1 _) (wpAny_pure ?_)
  refine wpAny_bind (hc _ fun s1 us ds okd kp hg ho er => ?_)
  have al := al ds okd
  have so := so ds okd
  have sh := sh ds okd
  have hl := hl ds okd
  have hul : us.length = ds.length := er.length
  have I1 : L2.Inv X pins σ H s1 := I.call' (ch := []) ho (Un.kept kp) (I.hok.kept kp) (by rw [hg]; exact I.bare) fun _ z => nomatch z
  refine wpAny_bind (wpAny_newList ?_ (by rw [hul]; exact hl))
  have hoL : (s1.heap.push (seqObj "list" us.toArray 0)).get? s1.heap.objs.size = some (seqObj "list" us.toArray 0) := Heap.get?_push_size _ rfl
  have old : ∀ b o, s1.heap.get? b = some o → (PySem.W.sortingHeap (s1.heap.push (seqObj "list" us.toArray 0)) s1.heap.objs.size us).get? b = some o := fun b o e =>
    PySem.W.sortingHeap_old (Nat.ne_of_lt (Heap.lt_size e)) (Heap.get?_push_of_some _ e)
  have rd : W.EachIs (fun u d => ∃ as, Reads (PySem.W.sortingHeap (s1.heap.push (seqObj "list" us.toArray 0)) s1.heap.objs.size us) u d as) us ds := by
    refine W.EachIs.of_zip er.length fun p hp => ?_
    obtain ⟨x, rx, rp⟩ := er.zip p hp
    have cl : p.2.canLay0 = true := SeqAt.canLay_of_shaped (sh p.2 (List.of_mem_zip hp).2)
    obtain ⟨as, r⟩ := Dp.reads I1 p.2 x p.1 ((rp.same hid_full).dp cl) rx
    exact ⟨as, PyProof.Rows.Reads.keeps old r⟩
  have S : PySem.W.SortsAt X.prog X.w X.A.in1.in1 { s1 with heap := PySem.W.sortingHeap (s1.heap.push (seqObj "list" us.toArray 0)) s1.heap.objs.size us } (PySem.W.dataKind (PySem.W.sortingHeap (s1.heap.push (seqObj "list" us.toArray 0)) s1.heap.objs.size us) ds) us :=
    PySem.W.SortsAt.data (s := { s1 with heap := PySem.W.sortingHeap (s1.heap.push (seqObj "list" us.toArray 0)) s1.heap.objs.size us }) rd al so fun d hd => by
      have h1 := SeqAt.depth_of_shaped (sh d hd)
      have h2 := hr.un
      show X.A.units + 1 + 1 + d.depth < cLine
      omega
  refine wpAny_bind (wpAny_holding (wpAny_call_entry slot_list_sort ⟨_, hoL, rfl⟩ entry_list_sort (PySem.W.list_sort_vals (s := { s1 with heap := s1.heap.push (seqObj "list" us.toArray 0) }) hoL S (by rw [hul]; exact hl) ⟨_, rfl, ?_⟩) (args_list_sort _)))
  refine wpAny_pure ⟨_, rfl, ?_⟩
  have er2 : W.EachIs (ValD X.K (hid M H)) us (ds.map id) := by
    rw [List.map_id]
    exact er
  have out := PySem.W.sortVals_data (h' := PySem.W.sortingHeap (s1.heap.push (seqObj "list" us.toArray 0)) s1.heap.objs.size us) (enc := (id : D → D)) false er rd (by rw [List.map_id]; exact al)
  rw [List.map_id, ← isortD_eq] at out
  obtain ⟨xs, q1, q2⟩ := of_valD out
  obtain ⟨c, hcc⟩ := sortedHeap_at (vs := us) (out := (PySem.W.sortVals (PySem.W.dataKind (PySem.W.sortingHeap (s1.heap.push (seqObj "list" us.toArray 0)) s1.heap.objs.size us) ds) false us us).toArray) hoL
  have hn : H s1.heap.objs.size = none := I1.hok.fresh (Nat.le_refl _)
  have old2 : ∀ b o, s1.heap.get? b = some o → (sortedHeap (s1.heap.push (seqObj "list" us.toArray 0)) s1.heap.objs.size us (PySem.W.sortVals (PySem.W.dataKind (PySem.W.sortingHeap (s1.heap.push (seqObj "list" us.toArray 0)) s1.heap.objs.size us) ds) false us us).toArray).get? b = some o := fun b o e => by
    have lt := Heap.lt_size e
    rw [sortedHeap_old (Nat.ne_of_lt lt) (by rw [size_push']; exact Nat.lt_succ_of_lt lt)]
    exact Heap.get?_push_of_some _ e
  have hxl : xs.length ≤ sizeLine := by
    rw [q2.length, isortD_eq, List.length_mergeSort]
    exact hl
  exact hQ _ s1.heap.objs.size xs ds okd (I1.laid (t' := s1.toks) old2 (Nat.le_refl _) ⟨hxl, _, c, q1, hcc⟩) hn q2
/-- a list's, a tuple's items -/
theorem collect_sq {β : Option Addr} {M : List Addr} {x : V} {a : D} {u : Value} {ds : List D} (I : L2.Inv X pins σ H s) (e : seqOf a = some ds) (hx : Rw X.K β M H x a) (rx : RelV x u)
    (Qc : List Value → Shared → Prop) (h : ∀ s1 us, (∀ b o, s.heap.get? b = some o → s1.heap.get? b = some o) → s1.gens = s.gens → s1.os = s.os → W.EachIs (ValD X.K (hid M H)) us ds → Qc us s1) :
    wpAny (model X.prog X.w) X.A.in1 (PySem.collect u) Qc X.xe s := by
  obtain ⟨p, vs, rfl, h1, r1⟩ := hx.seq e
  cases rx
  rcases h1 with h1 | h1
  · obtain ⟨its, rv, ⟨o, n, ho, hcl, _, hd⟩, hz⟩ := I.list (X := X) (.inl (.inl h1))
    exact wpAny_collect_seq p (.inl rfl) ho hcl hd (fun h' k => h { s with heap := h' } its k rfl rfl (by simpa using valD_of r1 rv)) (by have := rv.length; simp; omega)
  · obtain ⟨its, rv, ⟨o, ho, hcl, n, hd⟩, hz⟩ := I.tuple h1
    exact wpAny_collect_seq p (.inr rfl) ho hcl hd (fun h' k => h { s with heap := h' } its k rfl rfl (by simpa using valD_of r1 rv)) (by have := rv.length; simp; omega)
/-- sorted(xs), xs a list or a tuple -/
theorem op_sorted {β : Option Addr} {M : List Addr} {k : Nat} {bs : Bx} {x : V} {a d : D} {Q : VK} (hr : Room k X.A) (bx : BoxAt β H bs) (lv : Live M H) (e : biD .sorted a = some d) (hx : Rw X.K β M H x a) (q : Ans X.K β M H bs d Q) : wCl X (.builtin "sorted") [x] H Q := by
  obtain ⟨ds, e1, e2⟩ : ∃ ds, seqOf a = some ds ∧ (sortD ds).map .list = some d := by
    cases a with
    | list xs => exact ⟨xs, rfl, e⟩
    | tuple xs => exact ⟨xs, rfl, e⟩
    | _ => cases e
  obtain ⟨zs, e3, rfl⟩ := Option.map_eq_some_iff.mp e2
  unfold sortD at e3
  split at e3
  · rename_i hs
    simp only [Bool.and_eq_true] at hs
    cases e3
    refine wCl.bnd fun hb => ⟨fun vs H Q => vs = [x] ∧ Rw X.K β M H x a ∧ (ds.length ≤ sizeLine) ∧ (∀ p xs, H p = none → RpA X.K (hid M H) xs (isortD ds) → Q (.ref p) (upd H p (.lst xs))), ?_, rfl, hx, ?_, fun p xs hp r => q _ _ (Ext.new bx lv hp) (new_list lv hp r)⟩
    · intro pins s σ H2 vs us Q2 I rs h
      obtain ⟨rfl, hx2, hl, q2⟩ := h
      cases rs with
      | cons rx rs =>
        cases rs
        exact sorted_by (M := M) hr (fun z => z = ds) I (fun z e => by rw [e]; exact al_ok hs.1.1) (fun z e => by rw [e]; exact kinds_ok hs.1.2) (fun z e => by rw [e]; exact fun d hd => List.all_eq_true.mp hs.2 d hd) (fun z e => by rw [e]; exact hl)
          (fun Qc h => collect_sq I e1 hx2 rx Qc fun s1 us => h s1 us ds rfl) fun s' p xs z e J hp r => ⟨.ref p, _, J, rfl, q2 p xs hp (by rw [← e]; exact r)⟩
    · obtain ⟨p, vs, rfl, h1, r1⟩ := hx.seq e1
      rw [← r1.length]
      rcases h1 with h1 | h1
      · exact hb p vs (.inl (.inl h1))
      · exact hb.tup h1
  · cases e3
end
end Pd
end
section
/-! Pd: an own error whose __init__ hands its value on to super() and keeps it: made, at the library's level. -/
namespace PySem
namespace PdX
open PySem.W PySem.Calls PyProof.Rows PySem.HandSPX
/-- what stands of a built-in base -/
structure BaseF (B newId initId : String) (bmB : List Value) : Prop where
  F : ExcBaseFacts B newId initId bmB
  S : StoreFacts B bmB "object.__setattr__" "object"
  X : KxsFacts B initId
  along : ∀ K : Frag, alongIn K "__init__" bmB = some (some (.builtin initId))
  ob : bmB.contains (.type "object") = true
theorem base_VE : BaseF "ValueError" "ValueError.__new__" "ValueError.__init__" [.type "ValueError", .type "Exception", .type "BaseException", .type "object"] :=
  ⟨F.excBase_ValueError, F.store_ValueError, kxs_ValueError, fun K => by kernel_rfl, by decide +kernel⟩
theorem base_LE : BaseF "LookupError" "LookupError.__new__" "LookupError.__init__" [.type "LookupError", .type "Exception", .type "BaseException", .type "object"] :=
  ⟨F.excBase_LookupError, F.store_LookupError, kxs_LookupError, fun K => by kernel_rfl, by decide +kernel⟩
/-! ### the text of __init__ -/
def iA (f : Str) (p1 p2 : Pos) : Arguments := { posonlyargs := [], args := [{ arg := "self", annotation := none, pos := p1 }, { arg := f, annotation := none, pos := p2 }], vararg := none, kwonlyargs := [], kw_defaults := [], kwarg := none, defaults := [] }
def iB (f : Str) (q0 q1 q2 q3 q4 q5 q6 q7 q8 q9 : Pos) : List Stmt := [.Expr (.Call (.Attribute (.Call (.Name "super" q0) [] [] q1) "__init__" q2) [.Name f q3] [] q4) q5, .Assign [.Attribute (.Name "self" q6) f q7] (.Name f q8) q9]
def iS (f : Str) : Scope := { kind := .function, names := [(PySem.Str.ofString "self", .local), (f, .local), (PySem.Str.ofString "__class__", .free), (PySem.Str.ofString "super", .globalImplicit)], isGenerator := false, isCoroutine := false, more := [] }
/-- what the written part says of the class at C, of its __init__ at fI -/
structure ErrT (prog : Program) (K : Frag) (C fI : Addr) (q f : Str) (newId : String) (bmB : List Value) : Prop where
  cls : ∃ nm qn N bs sn sub ab col dd k0 k1 k2 k3 k5, K.lookup C = some (excClassObj nm qn C N bs bmB true sn sub ab col dd k0 k1 k2 k3 k5 newId)
  sa : findIn K (.ref C) "__setattr__" = some (some (.builtin "object.__setattr__"))
  noN : findIn K (.ref C) f = some none
  iC : findIn K (.ref C) "__init__" = some (some (.ref fI))
  tC : typeIn K (.ref fI) = some (.type "function")
  any : nsIn K cStatics "thirdparty.any" = some none
  sup : nsIn K mainGlobals "super" = some none
  htop : (prog.main.scope.names.lookup ("super" : Str)).isSome = false
  fn : ∃ (oc : Value) (od : Option Addr) (doc pm : Value) (an : Option Addr) (ct : Value) (osl : Array (Option Value)) (cc cda : Addr) (p1 p2 q0 q1 q2 q3 q4 q5 q6 q7 q8 q9 : Pos),
    K.lookup fI = some ⟨oc, od, .func (fnX "__init__" q (iA f p1 p2) (iB f q0 q1 q2 q3 q4 q5 q6 q7 q8 q9) (iS f) [("__class__", cc)] .none .none doc pm an (.ref cda) ct), osl⟩ ∧ (q2.endLine == q4.line) = true ∧ codeIn K (.ref cda) q = true ∧
    (∃ cl cld csl, K.lookup cc = some ⟨cl, cld, .cell (some (.ref C)), csl⟩) ∧ ∃ ccl cdd ccs vs file tf, K.lookup cda = some ⟨ccl, cdd, .fields vs, ccs⟩ ∧ vs[2]? = some (.str file tf) ∧ ((prog.main.file : Str) == file) = true
def BindF (f : Str) : Prop := ∀ q cc doc pm an cda ct p1 p2 q0 q1 q2 q3 q4 q5 q6 q7 q8 q9 (u v : Value), bindArgs (fnX "__init__" q (iA f p1 p2) (iB f q0 q1 q2 q3 q4 q5 q6 q7 q8 q9) (iS f) [("__class__", cc)] .none .none doc pm an (.ref cda) ct) ⟨[u, v], []⟩ = pure [(("self" : Str), u), (f, v)]
/-- what __init__ leaves of a fresh exception at x -/
structure InitEnd (f : Str) (h h' : Heap) (x C dx t1 : Addr) (v : Value) : Prop where
  keep : ∀ b o, b ≠ x → h.get? b = some o → h'.get? b = some o
  obj : h'.get? x = some { cls := .ref C, dict := some dx, data := .fields #[.ref t1, .none, .none, .none, .bool false, .none] }
  dbig : h.objs.size ≤ dx
  dne : dx ≠ x
  ns : h'.Ns1 dx (fun y => if y = f then some v else none)
structure OwnMade (f : Str) (h h' : Heap) (e C d : Addr) (v : Value) : Prop where
  keep : ∀ b o, h.get? b = some o → h'.get? b = some o
  new : h.objs.size ≤ e
  obj : ∃ oe vs, h'.get? e = some oe ∧ oe.cls = .ref C ∧ oe.dict = some d ∧ oe.data = .fields vs ∧ vs[1]? = some .none
  dbig : h.objs.size ≤ d
  dne : d ≠ e
  ns : h'.Ns1 d (fun y => if y = f then some v else none)
section
variable {prog : Program} {w : World} {A : Around} {E : Value → Shared → Prop} {R : Result → Shared → Prop} {h : Heap} {g : Array GenState} {d : Drawn} {t : Nat} {os : OsState} {K : Frag} {mg : Str → Option Value} {C fI : Addr} {q f : Str} {B newId initId : String} {bmB : List Value}
variable {nm qn : Str} {N : Addr} {bs : List Value} {sn : List Str} {sub : List Value} {ab : Bool} {col : Option Bool} {dd : Option Addr} {k0 k1 k2 k3 k5 : Option Value}
/-- the built-in __init__, bound, called -/
theorem call_bw (F : BaseF B newId initId bmB) {u e t0 : Addr} {rest : List Value} {Q : Value → Shared → Prop}
    (hC : h.get? C = some (excClassObj nm qn C N bs bmB true sn sub ab col dd k0 k1 k2 k3 k5 newId)) (he : h.get? e = some (excO C t0)) (hu : h.get? u = some (kxs_mw initId e)) (hrest : rest.length ≤ sizeLine)
    (hq : ∀ h' t1, (∀ b o, b ≠ e → h.get? b = some o → h'.get? b = some o) → h'.get? e = some (excO C t1) → Q .none ⟨h', g, d, t, os⟩) :
    wpAny (model prog w) A (call (.ref u) rest) Q E ⟨h, g, d, t, os⟩ := by
  refine wpAny_call (codeAny_of_tree ?_)
  show wpAny _ A.in1 (callAny (.ref u) ⟨rest, []⟩) _ _ _
  simp only [callAny]
  refine wpAny_bind (wpAny_load hu ?_)
  simp only [kxs_mw, show (Value.type "method-wrapper" == Value.type "method" || Value.type "method-wrapper" == Value.type "builtin_function_or_method" || Value.type "method-wrapper" == Value.type "method-wrapper") = true by decide, if_true]
  refine W.KFB.if_so (by decide) ?_
  refine wpAny_bind (check_bound_init F.F.toExcCallFacts hC he rfl ?_)
  refine wpAny_bind (wpAny_pure (wpAny_pure ?_))
  refine ⟨plainId_quiet F.F.init.plain _, codeAny_builtin F.F.initEntry ?_⟩
  rw [Around.under_plainId F.F.init.plain _]
  wp_walk
  refine hq _ h.objs.size (fun b o hb ho => ?_) ?_
  · rw [Heap.get?_update_other _ _ (Ne.symm hb)]
    exact Heap.get?_push_of_some _ ho
  · rw [Heap.get?_update_self _ (Heap.get?_push_of_some _ he) rfl]
    rfl
open Builtin Builtin.ObjectAttr in
/-- self.f = v on an exception that has no dict yet -/
theorem osa_new (F : BaseF B newId initId bmB) {name : Str} {tk : Tok} {v : Value} {x : Addr} {fv : Array Value} {cd : ClassData}
    (X : K.In h) (hx : h.get? x = some { cls := .ref C, data := .fields fv }) (hcd : W.clsIn K C = some cd) (hm : cd.mro = .ref C :: bmB) (hh : cd.hasDict = true) (ha : W.findIn K (.ref C) name = some none)
    (hq : ∀ h' tk' dx, (∀ b o, b ≠ x → h.get? b = some o → h'.get? b = some o) → h.objs.size ≤ dx → dx ≠ x → h'.get? x = some { cls := .ref C, dict := some dx, data := .fields fv } →
      h'.Ns1 dx (fun y => if y = name then some v else none) → R (.ok (.ret .none)) ⟨h', g, d, tk', os⟩) :
    codeAny (model prog w) A (.call (.builtin "object.__setattr__") ⟨[.ref x, .str name tk, v], []⟩) R ⟨h, g, d, t, os⟩ := by
  have I : W.InstAt h x { cls := .ref C, data := .fields fv } C none := ⟨hx, rfl, rfl, trivial⟩
  have SF := F.S
  have hxs : x ≠ h.objs.size := Nat.ne_of_lt (Heap.lt_size hx)
  have ne : cd.mro.isEmpty = false := by rw [hm]; rfl
  have hob : cd.mro.contains (.type "object") = true := by rw [hm, List.contains_cons, F.ob, Bool.or_true]
  have sub : W.Looks (model prog w) h (isInstance (.ref x) (.type "object")) true := I.type.andThen (W.looks_mroIn X (by unfold W.mroIn; rw [hcd, Option.bind_some, if_neg (by rw [ne]; decide), hob]))
  refine codeAny_call_builtin SF.slot.plain SF.entry (@W.check_slot (model prog w) _ _ ⟨h, g, d, t, os⟩ "object.__setattr__" "object" "__setattr__" (.ref x) [.str name tk, v] [] _ SF.kind SF.split sub (SF.args (.ref x) (.str name tk) v) ?_)
  have hmr : W.Looks (model prog w) h (mroOf (.ref C)) cd.mro := (W.looks_clsIn X hcd).andThen .now
  have L3 : W.Looks (model prog w) h (storeTaker? none) none := .now
  have hcls : W.Looks (model prog w) h (classData C) cd := W.looks_clsIn X hcd
  have hpass : refuseLoop (.ref x) "__setattr__" cd.mro = pure () := by
    rw [hm, refuseLoop_ref]
    exact SF.passes _
  rw [W.osa_eq, refuse_eq]
  refine wpAny_bind (wpAny_bind (I.type.at (wpAny_bind (hmr.at ?_))))
  rw [hpass]
  refine wpAny_pure (wpAny_bind (I.type.at (wpAny_bind ((W.looks_findIn X ha).at (wpAny_bind (L3.at ?_))))))
  show wpAny _ _ (storeInOwnDict (.ref x) (.ref C) (.str name tk) name v false) _ _ _
  obtain ⟨nm, bs, mro, ns, qn, hd, sn, sb, ab, col, del⟩ := cd
  dsimp only at hh
  subst hh
  unfold storeInOwnDict ownDictForStores
  repeat (first | with_reducible refine store_in_new ?_ ?_ | with_reducible refine wpAny_loadPart_at hx ?_ | with_reducible refine hcls.at ?_ | wp_step)
  · exact ⟨_, #[], _, (Heap.get?_update_ne _ _ _ _ hxs.symm).trans (Heap.get?_push_at rfl rfl), rfl, fun e he => absurd he (by simp), fun _ => rfl⟩
  · intro h' tk' hn' hs
    have hx₁ : (h.push { cls := .type "dict", data := .dict #[] }).get? x = some { cls := .ref C, data := .fields fv } := Heap.get?_push_of_some _ hx
    refine hq h' tk' h.objs.size (fun b o hb ho => ?_) (Nat.le_refl _) hxs.symm ?_ hn'
    · exact (hs.2 b (Nat.ne_of_lt (Heap.lt_size ho))).trans ((Heap.get?_update_ne _ _ _ _ hb).trans (Heap.get?_push_of_some _ ho))
    · exact (hs.2 x hxs).trans (Heap.get?_update_self _ hx₁ rfl)
end
end PdX
end PySem
end
section
namespace PySem
namespace PdX
open PySem.W PySem.Calls PyProof.Rows PySem.HandSPX
section
variable {prog : Program} {w : World} {A : Around} {E : Value → Shared → Prop} {R : Result → Shared → Prop} {s : Shared} {K : Frag} {mg : Str → Option Value} {C fI : Addr} {q f : Str} {B newId initId : String} {bmB : List Value}
theorem ldL {M : Model} {name : Str} {scope : Scope} {L a cc : Addr} {cd : Value} {m : Str → Option Value} {x : Str} {pos : Pos} {v : Value} {Q : Value → Shared → Prop} (hn : s.heap.Ns L m) (hv : m x = some v) (h : Q v s)
    (hk : scope.kind = .function) (hl : scope.names.lookup x = some .local) (hd : (x == ("__debug__" : Str)) = false) :
    wpAny M A (eval (.Name x pos) (ksEnv name scope L a cd cc)) Q E s := wpAny_Name (wpAny_loadName_local hk hl hn hv h) hd
theorem iS_f (nf : f ≠ "self") : (iS f).names.lookup f = some .local := by
  have e : (f == ("self" : Str)) = false := by simpa using nf
  show List.lookup f [(("self" : Str), NameKind.local), (f, .local), (PySem.Str.ofString "__class__", .free), (PySem.Str.ofString "super", .globalImplicit)] = _
  simp [List.lookup, e]
theorem iS_s : (iS f).names.lookup ("self" : Str) = some .local := by
  show List.lookup ("self" : Str) [(("self" : Str), NameKind.local), (f, .local), (PySem.Str.ofString "__class__", .free), (PySem.Str.ofString "super", .globalImplicit)] = _
  simp [List.lookup]
theorem iS_k {y : Str} (n1 : (y == ("self" : Str)) = false) (n2 : (y == f) = false) : (iS f).names.lookup y = List.lookup y [(PySem.Str.ofString "__class__", .free), (PySem.Str.ofString "super", .globalImplicit)] := by
  show List.lookup y [(("self" : Str), NameKind.local), (f, .local), (PySem.Str.ofString "__class__", .free), (PySem.Str.ofString "super", .globalImplicit)] = _
  rw [List.lookup, n1]
  dsimp only
  rw [List.lookup, n2]
theorem mc_eq {o : Expr} {name : Str} {apos pos : Pos} {a : Expr} {env : Env} (he : starEach [a] env = [(false, eval a env)]) (h2 : (apos.endLine == pos.line) = true) :
    eval (.Call (.Attribute o name apos) [a] [] pos) env = (do
      let ov ← attributeBase o name env (eval o env)
      standAt apos.atName
      let (f, first) ← holding [ov] (getMethod ov name (do return (← importBound o env).getD true))
      callWith pos f first (backTo pos (starEach [a] env)) []) := by
  show (do
    let ov ← attributeBase o name env (eval o env)
    standAt apos.atName
    methodCall o name apos pos env ov 1 (backTo pos (starEach [a] env)) []) = _
  have h1 : methodCallForm 1 (backTo pos (starEach [a] env)) [] = true := by
    rw [he]
    rfl
  unfold methodCall methodCallPos calleeOf
  rw [h1, h2]
  rfl
theorem err_init (FB : BaseF B newId initId bmB) (T : ErrT prog K C fI q f newId bmB) (nf : f ≠ "self") (nd : (f == ("__debug__" : Str)) = false) (nsu : (("super" : Str) == f) = false) (ncl : (("__class__" : Str) == f) = false)
    {x t0 : Addr} {v : Value} (X : K.In s.heap) (hlim : s.heap.NoLimit) (G : s.heap.Ns mainGlobals mg) (hb : ∃ mb, s.heap.Ns builtinsNs mb ∧ ∀ y : Str, y ≠ "__name__" → mb y = bootBuiltins y)
    (hx : s.heap.get? x = some (excO C t0)) (hnx : K.lookup x = none) (hroom : A.depth < recursionLimit)
    (hbi : BindF f)
    (hq : ∀ h' tk dx t1, InitEnd f s.heap h' x C dx t1 v → R (.ok (.ret .none)) { s with heap := h', toks := tk }) :
    codeAny (model prog w) A (.call (.ref fI) ⟨[.ref x, v], []⟩) R s := by
  obtain ⟨oc, od, doc, pm, an, ct, osl, cc, cda, p1, p2, q0, q1, q2, q3, q4, q5, q6, q7, q8, q9, ho, hln, hcd, ⟨cl, cld, csl, hcc⟩, ccl, cdd, ccs, vs, file, tf, hcda, hvs, hfile⟩ := T.fn
  obtain ⟨nm, qn, N, bs, sn, sub, ab, col, dd, k0, k1, k2, k3, k5, hC⟩ := T.cls
  have hcl : clsIn K C = some { name := nm, bases := bs, mro := .ref C :: bmB, ns := N, qualname := qn, hasDict := true, slotNames := sn, subclasses := sub, abstract := ab, collection := col, hasDel := false } := by unfold clsIn; rw [hC] <;> rfl
  obtain ⟨mb, hbn, hbb⟩ := hb
  have hfs : (f == ("self" : Str)) = false := by simpa using nf
  have hsf : (("self" : Str) == f) = false := by
    simp only [beq_eq_false_iff_ne, ne_eq]
    exact fun z => nf z.symm
  obtain ⟨hp, g, d, t, os⟩ := s
  refine ks_codeAny_call_defAt (fd := fnX "__init__" q (iA f p1 p2) (iB f q0 q1 q2 q3 q4 q5 q6 q7 q8 q9) (iS f) [("__class__", cc)] .none .none doc pm an (.ref cda) ct) (body := iB f q0 q1 q2 q3 q4 q5 q6 q7 q8 q9) (binds := [("self", .ref x), (f, v)])
    hroom (X _ _ ho) rfl hlim (codeRec_of X hcd) rfl (BindsTo.of_eq (hbi _ _ _ _ _ _ _ _ _ _ _ _ _ _ _ _ _ _ _ _ _)) ?ce ?lo (fun h₁ hn k => ?_)
  case ce =>
    intro y hy
    have hy : y ∈ [(("self" : Str), NameKind.local), (f, .local), (PySem.Str.ofString "__class__", .free), (PySem.Str.ofString "super", .globalImplicit)] := hy
    simp only [List.mem_cons, List.not_mem_nil, or_false] at hy
    rcases hy with rfl | rfl | rfl | rfl <;> exact fun z => NameKind.noConfusion z
  case lo =>
    intro y hy
    simp only [List.mem_cons, List.not_mem_nil, or_false] at hy
    rcases hy with rfl | rfl
    · exact iS_s
    · exact iS_f nf
  have X₁ : K.In h₁ := X.keeps k
  have hx₁ := k _ _ hx
  have vself : (fun y => List.lookup y [(("self" : Str), Value.ref x), (f, v)].reverse) ("self" : Str) = some (.ref x) := by
    show List.lookup ("self" : Str) [(f, v), (("self" : Str), Value.ref x)] = _
    simp [List.lookup, hsf]
  have vf : (fun y => List.lookup y [(("self" : Str), Value.ref x), (f, v)].reverse) f = some v := by
    show List.lookup f [(f, v), (("self" : Str), Value.ref x)] = _
    simp [List.lookup]
  have kf : (iS f).kind = .function := rfl
  have k1' : (iS f).names.lookup ("super" : Str) = some .globalImplicit := (iS_k (by decide) nsu).trans (by decide +kernel)
  have k2' : (iS f).names.lookup ("__class__" : Str) = some .free := (iS_k (by decide) ncl).trans (by decide +kernel)
  show wpAt _ _ _ (execs (.Expr _ _ :: _) (ksEnv q (iS f) hp.objs.size fI (.ref cda) cc)) _ _ _
  refine ks_wpAt_execs_cons (ks_wpAt_Expr_any (ks_wpAt_MethodCall ?_ (mc_eq rfl hln)))
  refine ks_wpAt_super_base (env := ksEnv q (iS f) hp.objs.size fI (.ref cda) cc) k1' k2' (by decide) rfl (X₁ _ _ ho) rfl (by rfl) rfl (X₁ _ _ hcda) rfl hvs hfile T.htop ?_
  refine ks_loadName_global kf k1' (loadGlobal_builtin (env := ksEnv q (iS f) hp.objs.size fI (.ref cda) cc) (G.keeps k) (mg_none_of X G T.sup) (hbn.keeps k) ((hbb _ (by decide)).trans (by rfl)) ⟨rfl, ?_⟩)
  refine wpAny_loadName_free kf k2' rfl ⟨_, X₁ _ _ hcc, rfl⟩ ?_
  refine wpAny_loadName_local kf iS_s hn vself ?_
  refine ks_wpAny_isType_cls (X₁ _ _ hC) rfl ⟨rfl, ?_⟩
  refine ks_wpAny_call_super (X₁ _ _ hC) rfl hx₁ rfl (fun c e => by cases e) (looks_mroIn X₁ (by unfold mroIn; rw [hcl]; simp)) (fun h₂ eso k₂ => ?_)
  have kk₂ : ∀ b o, hp.get? b = some o → h₂.get? b = some o := fun b o e => k₂ b o (k b o e)
  have X₂ : K.In h₂ := X₁.keeps k₂
  have hx₂ := k₂ _ _ hx₁
  have Ix : W.InstAt h₂ x (excO C t0) C none := ⟨hx₂, rfl, rfl, trivial⟩
  have hIs : W.Looks (model prog w) h₂ (isInstance (.ref x) (.type B)) true := Ix.type.andThen (W.looks_mroIn X₂ (by unfold mroIn; rw [hcl, Option.bind_some]; rw [if_neg (by simp)]; rw [List.contains_cons, FB.F.hasB, Bool.or_true]))
  have hxC : x ≠ C := ks_ne X₂ Ix hcl
  refine kxs_getMethod FB.X (l₀ := .ref C :: bmB) (l := bmB) eso (looks_opaque X₂ T.any) ?hmro (by simp) X₂ (FB.along K) hIs hxC (by decide) ?_
  case hmro => exact fun A Q E s k q => wpAny_bind ((looks_clsIn X₂ hcl) A _ E s k (wpAny_pure q))
  -- the call
  have kp : ∀ b o, h₂.get? b = some o → (h₂.push (kxs_mw initId x)).get? b = some o := fun b o e => Heap.get?_push_of_some _ e
  have hu : (h₂.push (kxs_mw initId x)).get? h₂.objs.size = some (kxs_mw initId x) := Heap.get?_push_at rfl rfl
  have hn₂ : (h₂.push (kxs_mw initId x)).Ns hp.objs.size (fun y => List.lookup y [(("self" : Str), Value.ref x), (f, v)].reverse) := hn.keeps fun b o e => kp b o (k₂ b o e)
  refine kxs_callWith (i := initId) (x := x) (args := (false, eval (.Name f q3) (ksEnv q (iS f) hp.objs.size fI (.ref cda) cc)) :: []) rfl (evalArgs_plain (spliced_cons (ldL hn₂ vf ?_ kf (iS_f nf) nd)))
  refine spliced_nil ⟨hu, ?_⟩
  show wpAny _ _ (call (.ref h₂.objs.size) [v]) _ _ _
  refine call_bw FB (t0 := t0) (kp _ _ (k₂ _ _ (k _ _ (X _ _ hC)))) (kp _ _ hx₂) hu (by rw [sizeLine_eq]; exact (by decide : 1 ≤ 16777216)) (fun h₃ t1 k₃ hx₃ => ?_)
  -- self.f = f
  have hxL : hp.objs.size ≠ x := Nat.ne_of_gt (Heap.lt_size hx)
  have kk₃ : ∀ b o, b ≠ x → hp.get? b = some o → h₃.get? b = some o := fun b o hb e => k₃ b o hb (kp b o (kk₂ b o e))
  have X₃ : K.In h₃ := fun a o e => kk₃ a o (fun z => by rw [z, hnx] at e; cases e) (X a o e)
  have hn₃ : h₃.Ns hp.objs.size (fun y => List.lookup y [(("self" : Str), Value.ref x), (f, v)].reverse) := by
    obtain ⟨oL, es, ep, e1, e2⟩ := hn₂
    exact ⟨oL, es, ep, k₃ _ _ hxL e1, e2⟩
  show wpAt _ _ _ (execs (.Assign _ _ _ :: _) (ksEnv q (iS f) hp.objs.size fI (.ref cda) cc)) _ _ _
  refine ks_wpAt_execs_cons (ks_wpAt_Assign_Attr (wpAt_of_wpAny (ldL hn₃ vf ?_ kf (iS_f nf) nd)) rfl)
  refine ldL hn₃ vself ?_ kf iS_s (by decide)
  refine set_plain X₃ (ox := excO C t1) (od := none) ⟨hx₃, rfl, rfl, trivial⟩ T.sa ?_
  refine osa_new FB X₃ hx₃ hcl rfl rfl T.noN (fun h₄ tk₄ dx k₄ dn dne hx₄ hn₄ => ?_)
  show wpAt _ _ _ (execs [] _) _ _ _
  have z : hp.objs.size < h₃.objs.size := hn₃.lt
  refine wpAt_of_wpAny (wpAny_execs_nil (hq h₄ tk₄ dx t1 ⟨fun b o hb e => k₄ b o hb (kk₃ b o hb e), hx₄, Nat.le_of_lt (Nat.lt_of_lt_of_le z dn), dne, hn₄⟩))
theorem err_made (FB : BaseF B newId initId bmB) (T : ErrT prog K C fI q f newId bmB) (nf : f ≠ "self") (nd : (f == ("__debug__" : Str)) = false) (nsu : (("super" : Str) == f) = false) (ncl : (("__class__" : Str) == f) = false)
    {v : Value} (X : K.In s.heap) (hlim : s.heap.NoLimit) (G : s.heap.Ns mainGlobals mg) (hb : ∃ mb, s.heap.Ns builtinsNs mb ∧ ∀ y : Str, y ≠ "__name__" → mb y = bootBuiltins y) (hroom : A.depth + 1 < recursionLimit)
    (hbi : BindF f)
    (hq : ∀ h' tk e d, OwnMade f s.heap h' e C d v → R (.ok (.ret (.ref e))) { s with heap := h', toks := tk }) :
    codeAny (model prog w) A (.call (.ref C) ⟨[v], []⟩) R s := by
  obtain ⟨nm, qn, N, bs, sn, sub, ab, col, dd, k0, k1, k2, k3, k5, hC⟩ := T.cls
  obtain ⟨hp, g, dr, tk, os⟩ := s
  have k : ∀ b o, hp.get? b = some o → ((hp.push (kdv_tup [v])).push (excO C hp.objs.size)).get? b = some o := fun b o e => Heap.get?_push_of_some _ (Heap.get?_push_of_some _ e)
  have hget : ((hp.push (kdv_tup [v])).push (excO C hp.objs.size)).get? (hp.objs.size + 1) = some (excO C hp.objs.size) := by heap_get
  have hnx : K.lookup (hp.objs.size + 1) = none := by
    cases e : K.lookup (hp.objs.size + 1) with
    | none => rfl
    | some o =>
      have z : hp.get? (hp.objs.size + 1) = some o := X _ _ e
      exact absurd (Nat.lt_of_succ_lt (Heap.lt_size z)) (Nat.lt_irrefl _)
  obtain ⟨mb, hb1, hb2⟩ := hb
  refine call_own FB.F (fun X => rfl) (X _ _ hC) (looks_findIn X T.iC) (fun self => bind_fn X self T.tC) (by rw [sizeLine_eq]; exact (by decide : 1 ≤ 16777216)) ?_
  refine err_init (s := ⟨(hp.push (kdv_tup [v])).push (excO C hp.objs.size), g, dr, tk, os⟩) FB T nf nd nsu ncl (X.keeps k) (hlim.keeps k) (G.keeps k) ⟨mb, hb1.keeps k, hb2⟩ hget hnx ?_ hbi fun h' tk' dx t1 ⟨k', hx, dn, dne, hns⟩ => ?_
  · show A.depth + 1 < recursionLimit
    exact hroom
  · have old : ∀ b o, hp.get? b = some o → h'.get? b = some o := fun b o e => k' b o (Nat.ne_of_lt (Nat.lt_succ_of_lt (Heap.lt_size e))) (k b o e)
    have z : hp.objs.size + 1 + 1 ≤ dx := by
      first
        | (simpa only [Heap.size_push] using dn)
        | exact dn
        | (have q := dn; rw [Heap.size_push, Heap.size_push] at q; exact q)
    exact ⟨rfl, hq h' tk' (hp.objs.size + 1) dx ⟨old, Nat.le_succ _, ⟨_, _, hx, rfl, rfl, rfl, rfl⟩, Nat.le_trans (Nat.le_trans (Nat.le_succ _) (Nat.le_succ _)) z, dne, hns⟩⟩
end
end PdX
end PySem
end
section
/-! Pd: set(xs) of texts and ints, sorted(set(xs)), len(set(xs)). -/
namespace Pd
open PySem PySem.Spec PyProof.Rows L2

/-! ### what a set of keys is -/
def kOf (e : Int × Value) : Key := match e.2 with
  | .str x _ => .inr x
  | .int i _ => .inl i
  | _ => .inl 0
def KeyRow (w : World) (e : Int × Value) : Prop := ∃ k : Key, keyIs k e.2 = true ∧ e.1 = keyH w k
theorem kOf_is {k : Key} {e : Int × Value} (h : keyIs k e.2 = true) : kOf e = k := by
  rcases keyIs_shape h with ⟨i, t, rfl, q⟩ | ⟨x, t, rfl, q⟩ <;> (unfold kOf; rw [q])
theorem key_scans {k : Key} {v : Value} (h : keyIs k v = true) : v.scannable = true := by
  rcases keyIs_shape h with ⟨i, t, rfl, rfl⟩ | ⟨x, t, rfl, rfl⟩ <;> rfl
/-- the set at a has just the keys L -/
def SetX (w : World) (h : Heap) (a : Addr) (L : List Key) : Prop :=
  ∃ o es ep t, h.get? a = some o ∧ o.ExactSet ∧ o.data = .set es ep t ∧ (∀ e ∈ es.toList, KeyRow w e) ∧ (es.toList.map kOf).Perm L ∧ L.Nodup ∧ es.size < scanBound ∧ t.fits es.size = true ∧ Ris t.place.toList ∧
    (w.params.followText "set-order" = true ∨ t.led = true)
section
variable {P : Program} {w : World} {h h' : Heap} {a : Addr} {L : List Key}
theorem SetX.at (R : SetX w h a L) (k : ∀ o, h.get? a = some o → h'.get? a = some o) : SetX w h' a L := by
  obtain ⟨o, es, ep, t, ho, r⟩ := R
  exact ⟨o, es, ep, t, k o ho, r⟩
theorem rows_elems {l : List (Int × Value)} (g : ∀ e ∈ l, KeyRow w e) : ElemsOf (mixKind P w) l := fun e he => by
  obtain ⟨k, h1, h2⟩ := g e he
  exact ⟨⟨k, h1, h2⟩, key_scans h1⟩
theorem rows_mem {l : List (Int × Value)} (g : ∀ e ∈ l, KeyRow w e) (k : Key) : k ∈ l.map kOf ↔ ∃ e ∈ l, (mixKind P w).is k e.2 = true := by
  constructor
  · intro z
    obtain ⟨e, he, q⟩ := List.mem_map.mp z
    obtain ⟨k', h1, _⟩ := g e he
    rw [kOf_is h1] at q
    subst q
    exact ⟨e, he, h1⟩
  · intro ⟨e, he, q⟩
    exact List.mem_map.mpr ⟨e, he, kOf_is q⟩
end

section
variable {P : Program} {w : World} {A : Around} {E : Value → Shared → Prop} {s : Shared} {a : Addr} {L : List Key}
/-- behind the laying of a new row -/
theorem laid_tail {g : Bool → Sem Unit} (hg : ∀ (b : Bool) (s1 : Shared) (Z : Unit → Shared → Prop), Z () s1 → wpAny (model P w) A (g b) Z E s1) {o : Obj} {es rows : Array (Int × Value)} {ep : Nat} {t tb : SetTable} {N : List Key}
    (ho : s.heap.get? a = some o) (hx : o.ExactSet) (hd : o.data = .set es ep t) (gr : ∀ e ∈ rows.toList, KeyRow w e) (pr : (rows.toList.map kOf).Perm N) (nd : N.Nodup) (few : rows.size < scanBound) (ft : tb.fits rows.size = true)
    (rs : Ris tb.place.toList) (ld : w.params.followText "set-order" = true ∨ tb.led = true) {wd : Bool} {R : Option Bool → Shared → Prop} (hR : ∀ h', Heap.SameBut a s.heap h' → SetX w h' a N → R (some true) { s with heap := h' }) :
    wpAny (model P w) A (do
        storeSet a rows tb
        if (!wd && tb.tooFull) = true then do
            g (relayAll tb rows (SetTable.grown rows.size)).2.2
            storeSet a (relayAll tb rows (SetTable.grown rows.size)).1 (relayAll tb rows (SetTable.grown rows.size)).2.1
            pure (some true)
          else pure (some true)) R E s := by
  have here := store_at (es' := rows) (t' := tb) ho hd
  have but1 := Heap.SameBut.update s.heap a (Obj.putSet rows tb)
  refine wpAny_bind (wpAny_storeSet_of ho hd ?_ (fits_of_scanBound few))
  by_cases full : (!wd && tb.tooFull) = true
  · rw [if_pos full]
    have q1 := relayAll_perm tb rows (SetTable.grown rows.size)
    have q2 := relayAll_fits tb rows (SetTable.grown rows.size)
    have q3 := relayAll_ris tb rows (SetTable.grown rows.size)
    have q4 := relayAll_led tb rows (SetTable.grown rows.size)
    revert q1 q2 q3 q4
    generalize relayAll tb rows (SetTable.grown rows.size) = Z
    intro q1 q2 q3 q4
    obtain ⟨rows2, tc, gave⟩ := Z
    dsimp only at q1 q2 q3 q4 ⊢
    have same : rows2.size = rows.size := by
      have := q1.length_eq
      simpa using this
    have few2 : rows2.size < scanBound := same ▸ few
    refine wpAny_bind (hg _ _ _ (wpAny_bind (wpAny_storeSet_of here rfl ?_ (fits_of_scanBound few2))))
    refine wpAny_pure (hR _ (but1.trans (Heap.SameBut.update _ a _)) ⟨_, rows2, _, tc, store_at here rfl, hx, rfl, fun e he => gr e (q1.mem_iff.mp he), (q1.map kOf).trans pr, nd, few2, q2, q3, ?_⟩)
    rcases ld with ld | ld
    · exact .inl ld
    · exact .inr (q4.trans ld)
  · rw [if_neg full]
    exact wpAny_pure (hR _ but1 ⟨_, rows, _, tb, here, hx, rfl, gr, pr, nd, few, ft, rs, ld⟩)
open Classical in
noncomputable def putK (k : Key) (L : List Key) : List Key := if k ∈ L then L else k :: L
theorem add_hashed {k : Key} {v : Value} {Q : Bool → Shared → Prop} (hv : keyIs k v = true) (R : SetX w s.heap a L) (room : L.length + 1 < scanBound)
    (hQ : ∀ (b : Bool) h', Heap.SameBut a s.heap h' → SetX w h' a (putK k L) → Q b { s with heap := h' }) : wpAny (model P w) A (setAddHashed a v (keyH w k)) Q E s := by
  obtain ⟨o, es, ep, t, ho, hx, hd, gr, pm, nd, few, ft, rs, ld⟩ := R
  have sc := key_scans hv
  have el : ElemsOf (mixKind P w) es.toList := rows_elems gr
  have hk : (mixKind P w).is k v = true := hv
  unfold setAddHashed setAddHashedIn
  refine wpAny_holding (wpAny_bind (wpAny_setState_of ho hd ft ?_))
  dsimp only
  rw [byScan_of sc few el, if_pos rfl]
  unfold setAddByScan
  refine wpAny_bind (wpAny_bind (wpAny_rule (wpAny_bind (wpAny_setScan_of hk ho hd ft el ?_))))
  cases found : List.findIdx? (fun e => (mixKind P w).is k e.2) es.toList with
  | some j =>
    obtain ⟨hj, pj, _⟩ := List.findIdx?_eq_some_iff_getElem.mp found
    have inL : k ∈ L := pm.mem_iff.mp ((rows_mem (P := P) gr k).mpr ⟨es.toList[j], List.getElem_mem hj, pj⟩)
    refine wpAny_pure (wpAny_pure (hQ false s.heap (Heap.SameBut.refl a s.heap) ?_))
    rw [show putK k L = L by unfold putK; rw [if_pos inL]]
    exact ⟨o, es, ep, t, ho, hx, hd, gr, pm, nd, few, ft, rs, ld⟩
  | none =>
    have out : k ∉ L := fun z => by
      obtain ⟨e, he, q⟩ := (rows_mem (P := P) gr k).mp (pm.mem_iff.mpr z)
      have c := List.findIdx?_eq_none_iff.mp found e he
      rw [q] at c
      cases c
    have give : ∀ (b : Bool) {s1 : Shared} {Z : Unit → Shared → Prop}, Z () s1 → wpAny (model P w) A (match b with
        | true => rule "set.scan.the-table-gave-way"
        | false => pure ()) Z E s1 := fun b s1 Z q => by
      cases b with
      | true => exact wpAny_rule q
      | false => exact wpAny_pure q
    have q1 := layNew_perm t es (keyH w k) v
    have q2 := layNew_fits t es (keyH w k) v
    have q3 := layNew_ris t es (keyH w k) v rs
    have q4 := layNew_led t es (keyH w k) v
    dsimp only
    revert q1 q2 q3 q4
    generalize layNew t es (keyH w k) v = Z
    intro q1 q2 q3 q4
    obtain ⟨rows, tb, wd, gave⟩ := Z
    dsimp only at q1 q2 q3 q4 ⊢
    have pe : rows.toList.Perm ((keyH w k, v) :: es.toList) := by
      rw [Array.toList_push] at q1
      exact q1.trans (List.perm_append_singleton _ _)
    have gr2 : ∀ e ∈ rows.toList, KeyRow w e := fun e he => by
      rcases List.mem_cons.mp (pe.mem_iff.mp he) with rfl | z
      · exact ⟨k, hv, rfl⟩
      · exact gr e z
    have pm2 : (rows.toList.map kOf).Perm (k :: L) := by
      have q := pe.map kOf
      rw [List.map_cons, kOf_is (e := (keyH w k, v)) hv] at q
      exact q.trans (pm.cons k)
    have nd2 : (k :: L).Nodup := List.nodup_cons.mpr ⟨out, nd⟩
    have few2 : rows.size < scanBound := by
      have := pm2.length_eq
      simp only [List.length_map, Array.length_toList, List.length_cons] at this
      omega
    have ld2 : w.params.followText "set-order" = true ∨ tb.led = true := ld.imp id fun z => q4.trans z
    have eput : putK k L = k :: L := by
      unfold putK
      rw [if_neg out]
    have gv : ∀ (b : Bool) (s1 : Shared) (Z : Unit → Shared → Prop), Z () s1 → wpAny (model P w) A (match b with
        | true => rule "set.scan.the-table-gave-way"
        | false => pure ()) Z E s1 := fun b s1 Z q => give b q
    refine wpAny_bind (give _ ?_)
    by_cases pl : tb.plain = true
    · rw [if_pos pl]
      refine wpAny_bind ?_
      rw [hashByValue_scannable 8 sc]
      refine wpAny_pure (laid_tail gv ho hx hd gr2 pm2 nd2 few2 ?_ ?_ ?_ fun h' sb r => ?_)
      · split
        · exact q2
        · exact SetTable.fits_plain_off q2
      · split <;> exact q3
      · split <;> exact ld2
      · refine wpAny_pure (hQ true h' sb ?_)
        rw [eput]
        exact r
    · rw [if_neg pl]
      refine wpAny_bind (wpAny_pure ?_)
      rw [if_pos rfl]
      refine laid_tail gv ho hx hd gr2 pm2 nd2 few2 q2 q3 ld2 fun h' sb r => ?_
      refine wpAny_pure (hQ true h' sb ?_)
      rw [eput]
      exact r
end

/-! ### the loop that fills a set -/
section
variable {P : Program} {w : World} {A : Around} {E : Value → Shared → Prop} {s : Shared}
/-- Z i h: what the set at S is in h behind i items; what else stood in h0 stands -/
theorem fill_loop {I : Addr} {fp wr : List Addr} {G : Array GenState → Array GenState → Prop} {n : Nat} {Pv : Nat → Value → Prop} {Sx : Nat → Shared → Prop} {R : Result → Shared → Prop} (W : WalksS P w A.in1 I fp wr G n Pv Sx) (S : Addr) (hSf : S ∉ fp)
    (Z : Nat → Heap → Prop) (h0 : Heap) (hS0 : h0.get? S = none) (hw0 : ∀ b ∈ wr, h0.get? b = none) (keepZ : ∀ i h h', Z i h → (∀ o, h.get? S = some o → h'.get? S = some o) → (∀ b o, h0.get? b = some o → h'.get? b = some o) → Z i h')
    (step : ∀ (i : Nat) (v : Value) (s : Shared) (Q : Bool → Shared → Prop), i < n → Pv i v → Z i s.heap → (∀ b o, h0.get? b = some o → s.heap.get? b = some o) →
      (∀ (b : Bool) h' tk, s.toks ≤ tk → Heap.SameBut S s.heap h' → Z (i + 1) h' → Q b { s with heap := h', toks := tk }) → wpAny (model P w) A.in1 (setAdd S v) Q (fun e s' => R (.error e) s') s) :
    ∀ (k i : Nat) (s : Shared), n - i = k → i ≤ n → Sx i s → (∀ b o, h0.get? b = some o → s.heap.get? b = some o) → Z i s.heap →
      (∀ s', Moved (S :: wr) G s s' → Z n s'.heap → (∀ b o, h0.get? b = some o → s'.heap.get? b = some o) → R (.ok (.ret .none)) s') → codeAny (model P w) A (.builtin "set.update.loop" ⟨[.ref S, .ref I], []⟩) R s := by
  have hSw : S ∉ wr := fun h => hSf (W.sub _ h)
  have sub : ∀ b ∈ wr, b ∈ S :: wr := fun b hb => List.mem_cons_of_mem _ hb
  have keepM : ∀ {s s' : Shared}, Moved wr G s s' → (∀ b o, h0.get? b = some o → s.heap.get? b = some o) → ∀ b o, h0.get? b = some o → s'.heap.get? b = some o := fun hm hk b o e =>
    hm.heap b o (fun hb => by
      rw [hw0 b hb] at e
      cases e) (hk b o e)
  intro k
  induction k with
  | zero =>
    intro i s hk hi hst hkp hz hR
    obtain rfl : i = n := by omega
    refine codeAny_builtin F.entry_set_update_loop ?_
    rw [Around.under_plainId F.plain_set_update_loop _]
    show wpAny _ A.in1 (pyNext (.ref I) >>= _) _ _ s
    refine wpAny_bind (W.done s _ _ hst fun s' hm => ?_)
    exact wpAny_pure (hR s' (hm.mono sub) (keepZ _ _ _ hz (fun o e => hm.heap S o hSw e) (keepM hm hkp)) (keepM hm hkp))
  | succ k ih =>
    intro i s hk hi hst hkp hz hR
    have lt : i < n := by omega
    refine codeAny_builtin F.entry_set_update_loop ?_
    rw [Around.under_plainId F.plain_set_update_loop _]
    show wpAny _ A.in1 (pyNext (.ref I) >>= _) _ _ s
    refine wpAny_bind (W.item i s _ _ lt hst fun v s' hP hst' hm => ?_)
    have kp1 := keepM hm hkp
    have z1 : Z i s'.heap := keepZ _ _ _ hz (fun o e => hm.heap S o hSw e) kp1
    show wpAny _ A.in1 (holding [v] (setAdd S v) >>= _) _ _ s'
    refine wpAny_bind (wpAny_holding (step i v s' _ lt hP z1 kp1 fun b h' tk le sb z2 => ?_))
    have kp2 : ∀ b o, h0.get? b = some o → h'.get? b = some o := fun b o e => (sb.2 b (fun z => by
      rw [z, hS0] at e
      cases e)).trans (kp1 b o e)
    refine wpAny_pure ⟨plainId_quiet F.plain_set_update_loop _, ih (i + 1) _ (by omega) lt (W.frame _ s' _ _ hst' le fun b hb o e => ?_) kp2 z2 fun s2 m2 z3 kp3 => ?_⟩
    · rw [sb.2 b (fun h : b = S => hSf (h ▸ hb))]
      exact e
    · refine hR s2 (Moved.trans W.gtrans ((hm.mono sub).then_heap le fun b o hb e => ?_) m2) z3 kp3
      rw [sb.2 b (fun h : b = S => hb (h ▸ List.mem_cons_self))]
      exact e

/-- the empty set that set(..) begins with -/
abbrev set0 (w : World) : Obj := { cls := .type "set", dict := none, data := .set #[] 0 (.fresh 0 0 (!w.params.followText "set-order")) }
set_option maxHeartbeats 6400000 in
/-- set(xs), xs a list or a tuple: it is filled item by item -/
theorem set_of_seq {l : Addr} {ol : Obj} {items : Array Value} {nl : Nat} {T : String} {Q : Value → Shared → Prop} (hT0 : T = "list" ∨ T = "tuple") (hh : A.handled = none) (hol : s.heap.get? l = some ol) (hcl : ol.cls = .type T) (hdl : ol.data = .seq items nl)
    (Z : Nat → Heap → Prop) (zero : ∀ h, h.get? s.heap.objs.size = some (set0 w) → (∀ b o, s.heap.get? b = some o → h.get? b = some o) → Z 0 h)
    (keepZ : ∀ i h h', Z i h → (∀ o, h.get? s.heap.objs.size = some o → h'.get? s.heap.objs.size = some o) → (∀ b o, s.heap.get? b = some o → h'.get? b = some o) → Z i h')
    (step : ∀ (R : Value → Shared → Prop) (i : Nat) (v : Value) (s1 : Shared) (Q : Bool → Shared → Prop), i < items.size → items[i]? = some v → Z i s1.heap → (∀ b o, s.heap.get? b = some o → s1.heap.get? b = some o) →
      (∀ (b : Bool) h' tk, s1.toks ≤ tk → Heap.SameBut s.heap.objs.size s1.heap h' → Z (i + 1) h' → Q b { s1 with heap := h', toks := tk }) → wpAny (model P w) A.in1.in1.in1 (setAdd s.heap.objs.size v) Q R s1)
    (h : ∀ (h' : Heap) (tk : Nat), Z items.size h' → (∀ b o, s.heap.get? b = some o → h'.get? b = some o) → Q (.ref s.heap.objs.size) { s with heap := h', toks := tk }) : wpAny (model P w) A (call (.type "set") [.ref l]) Q E s := by
  obtain ⟨c, tl, hmro⟩ := F.called_set.mro
  have hmade := F.called_set.made
  have hsub := F.called_set.sub
  refine wpAny_call (codeAny_of_tree ?_)
  show wpAny _ _ (callAny (.type "set") _) _ _ _
  refine wpAny_pure ⟨Code.quiet_builtin _ (by decide +kernel), codeAny_builtin F.entry_type_call ?_⟩
  rw [Around.under_plain (weight_type_call_type "set" [.ref l] []) rfl]
  have h1 := F.called_set.notType
  have h2 := F.called_set.canCreate
  have hct := F.typeCall_set_1 (.ref l)
  repeat (any_goals (first | assumption | wp_step))
  refine codeAny_mono (code_set_led1 (.ref l) (E := E) (Q₁ := fun obj s₁ => obj = .ref s.heap.objs.size ∧ s₁ = { s with heap := s.heap.push (set0 w) }) ⟨rfl, rfl⟩) fun r s₁ hr => ?_
  cases r with
  | error e => exact hr
  | ok fl =>
    cases fl with
    | ret obj =>
      obtain ⟨rfl, rfl⟩ := hr
      have hS : (s.heap.push (set0 w)).get? s.heap.objs.size = some (set0 w) := Heap.get?_push_size _ rfl
      have hT : Shared.TypeIs { s with heap := s.heap.push (set0 w) } (.ref s.heap.objs.size) "set" := ⟨_, hS, rfl⟩
      have hli := F.called_set.init.lookup
      have hbi := F.called_set.init.bind (.ref s.heap.objs.size)
      repeat (any_goals (first | assumption | wp_step))
      refine codeAny_mono (codeAny_call_builtin (R := wants (fun r s₂ => r = .none ∧ ∃ h' tk, s₂ = { s with heap := h', toks := tk } ∧ Z items.size h' ∧ (∀ b o, s.heap.get? b = some o → h'.get? b = some o)) E) F.called_set.init.plain F.entry_set_init (check_set_init_1 hT ?_)) fun r₂ s₂ hr₂ => ?_
      · obtain ⟨ocls, odict, odata, oslots⟩ := ol
        simp only at hcl hdl
        subst hcl; subst hdl
        have hlS : l < s.heap.objs.size := Heap.lt_size hol
        have hh3 : A.in1.in1.in1.handled = none := by simp [hh]
        have hneI : l ≠ (s.heap.push (set0 w)).objs.size := by
          rw [Heap.size_push]
          exact Nat.ne_of_lt (Nat.lt_succ_of_lt hlS)
        have hSf : s.heap.objs.size ∉ [(s.heap.push (set0 w)).objs.size, l] := by
          rw [Heap.size_push]
          simp only [List.mem_cons, List.not_mem_nil, or_false, not_or]
          exact ⟨Nat.ne_of_lt (Nat.lt_succ_self _), Nat.ne_of_gt hlS⟩
        have none_of : ∀ b, s.heap.objs.size ≤ b → s.heap.get? b = none := fun b hb => Heap.get?_none_of_le hb
        have wr0 : ∀ b ∈ [(s.heap.push (set0 w)).objs.size], s.heap.get? b = none := fun b hb => none_of b (by
          rw [List.mem_singleton.mp hb, Heap.size_push]
          exact Nat.le_succ _)
        rcases hT0 with rfl | rfl
        · have hol' : (s.heap.push (set0 w)).get? l = some { cls := .type "list", dict := odict, data := .seq items nl, slots := oslots } := Heap.get?_push_of_some _ hol
          have hsls := F.sub_list_set
          have hslf := F.sub_list_frozenset
          have hne : (Value.type "list" == Value.type "dict") = false := by decide
          have hl1 : (s.heap.push (set0 w)).IsList l items := ⟨_, hol', rfl, nl, rfl⟩
          unfold Builtin.«set.__init__» noKeywords Builtin.Frozenset.updateFrom
          generalize hPI : pyIter = PI
          wp_walk
          subst hPI
          refine wpAny_pyIter_list hl1 (wpAny_bind (wpAny_runValue ?_))
          refine fill_loop ((Walks.list hh3 _ l hneI items).toS) s.heap.objs.size hSf Z s.heap (none_of _ (Nat.le_refl _)) wr0 keepZ (fun i v s1 Q a b c d e => step _ i v s1 Q a b c d e) (items.size - 0) 0 _ (by omega) (Nat.zero_le _)
            ⟨⟨_, Heap.get?_push_size _ rfl, rfl, rfl⟩, (hl1.push _)⟩ (fun b o e => Heap.get?_push_of_some _ (Heap.get?_push_of_some _ e)) (zero _ (Heap.get?_push_of_some _ hS) fun b o e => Heap.get?_push_of_some _ (Heap.get?_push_of_some _ e)) ?_
          intro s' hm hz hkp
          obtain ⟨h', g2, d', tk', os'⟩ := s'
          obtain rfl : g2 = s.gens := hm.gens
          obtain rfl : d' = s.drawn := hm.drawn
          obtain rfl : os' = s.os := hm.os
          refine wpAny_pure ?_
          exact wpAny_pure ⟨rfl, h', tk', rfl, hz, hkp⟩
        · have hol' : (s.heap.push (set0 w)).get? l = some { cls := .type "tuple", dict := odict, data := .seq items nl, slots := oslots } := Heap.get?_push_of_some _ hol
          have hsls := F.sub_tuple_set
          have hslf := F.sub_tuple_frozenset
          have hne : (Value.type "tuple" == Value.type "dict") = false := by decide
          have hl1 : (s.heap.push (set0 w)).IsTuple l items := ⟨_, hol', rfl, nl, rfl⟩
          unfold Builtin.«set.__init__» noKeywords Builtin.Frozenset.updateFrom
          generalize hPI : pyIter = PI
          wp_walk
          subst hPI
          refine wpAny_pyIter_tuple hl1 (wpAny_bind (wpAny_runValue ?_))
          refine fill_loop ((Walks.tuple hh3 _ l hneI items).toS) s.heap.objs.size hSf Z s.heap (none_of _ (Nat.le_refl _)) wr0 keepZ (fun i v s1 Q a b c d e => step _ i v s1 Q a b c d e) (items.size - 0) 0 _ (by omega) (Nat.zero_le _)
            ⟨⟨_, Heap.get?_push_size _ rfl, rfl, rfl⟩, (hl1.push _)⟩ (fun b o e => Heap.get?_push_of_some _ (Heap.get?_push_of_some _ e)) (zero _ (Heap.get?_push_of_some _ hS) fun b o e => Heap.get?_push_of_some _ (Heap.get?_push_of_some _ e)) ?_
          intro s' hm hz hkp
          obtain ⟨h', g2, d', tk', os'⟩ := s'
          obtain rfl : g2 = s.gens := hm.gens
          obtain rfl : d' = s.drawn := hm.drawn
          obtain rfl : os' = s.os := hm.os
          refine wpAny_pure ?_
          exact wpAny_pure ⟨rfl, h', tk', rfl, hz, hkp⟩
      · cases r₂ with
        | error e => exact hr₂
        | ok fl₂ =>
          cases fl₂ with
          | ret r =>
            obtain ⟨rfl, h', tk, rfl, hz, hk'⟩ := hr₂
            repeat (any_goals (first | assumption | wp_step))
            exact h _ _ hz hk'
          | _ => exact hr₂.elim
    | _ => exact hr.elim
end
end Pd
end
section
/-! Pd: set(xs), sorted(set(xs)), len(set(xs)) by data. -/
namespace Pd
open PySem PySem.Spec PyProof.Rows L2

/-! ### keys by data -/
def keysOf : List D → Option (List Key)
  | [] => some []
  | .int i :: r => (keysOf r).map (Sum.inl i :: ·)
  | .str x :: r => (keysOf r).map (Sum.inr x :: ·)
  | _ :: _ => none
theorem keysOf_map : ∀ {ds : List D} {ks : List Key}, keysOf ds = some ks → ds = ks.map keyD
  | [], ks, e => by
    cases e
    rfl
  | d :: r, ks, e => by
    cases d with
    | int i =>
      obtain ⟨ms, e1, rfl⟩ := Option.map_eq_some_iff.mp e
      rw [List.map_cons, ← keysOf_map e1]
      rfl
    | str i =>
      obtain ⟨ms, e1, rfl⟩ := Option.map_eq_some_iff.mp e
      rw [List.map_cons, ← keysOf_map e1]
      rfl
    | _ => cases e
theorem keysOf_all : ∀ {ds : List D}, (allStr ds || allInt ds) = true → ∃ ks, keysOf ds = some ks
  | [], _ => ⟨[], rfl⟩
  | d :: r, h => by
    have hr : (allStr r || allInt r) = true := by
      rcases Bool.or_eq_true_iff.mp h with h | h
      · unfold allStr at h ⊢
        rw [List.all_cons, Bool.and_eq_true] at h
        exact Bool.or_eq_true_iff.mpr (.inl h.2)
      · unfold allInt at h ⊢
        rw [List.all_cons, Bool.and_eq_true] at h
        exact Bool.or_eq_true_iff.mpr (.inr h.2)
    obtain ⟨ks, e⟩ := keysOf_all hr
    cases d with
    | int i => exact ⟨Sum.inl i :: ks, by rw [keysOf, e]; rfl⟩
    | str i => exact ⟨Sum.inr i :: ks, by rw [keysOf, e]; rfl⟩
    | _ => simp [allStr, allInt] at h
theorem keyD_inj {a b : Key} (h : keyD a = keyD b) : a = b := by
  cases a <;> cases b <;> simp [keyD] at h <;> rw [h]
/-- one kind, as the look says -/
def kin (str : Bool) : Key → Prop
  | .inl _ => str = false
  | .inr _ => str = true
theorem kin_of {ds : List D} {ks : List Key} (h : (allStr ds || allInt ds) = true) (e : ds = ks.map keyD) : ∃ b, ∀ k ∈ ks, kin b k := by
  subst e
  rcases Bool.or_eq_true_iff.mp h with h | h
  · refine ⟨true, fun k hk => ?_⟩
    have q := List.all_eq_true.mp h (keyD k) (List.mem_map.mpr ⟨k, hk, rfl⟩)
    cases k with
    | inl i => simp [keyD] at q
    | inr i => rfl
  · refine ⟨false, fun k hk => ?_⟩
    have q := List.all_eq_true.mp h (keyD k) (List.mem_map.mpr ⟨k, hk, rfl⟩)
    cases k with
    | inl i => rfl
    | inr i => simp [keyD] at q
theorem eqv_key {b : Bool} {x y : Key} (hx : kin b x) (hy : kin b y) : PyData.eqv (keyD x) (keyD y) = true ↔ x = y := by
  cases x <;> cases y
  · simp [keyD, PyData.eqv]
  · cases hx
    cases hy
  · cases hx
    cases hy
  · simp [keyD, PyData.eqv]
theorem alike_key {b : Bool} {x y : Key} (hx : kin b x) (hy : kin b y) : W.alike (keyD x) (keyD y) = true := by
  cases x <;> cases y
  · simp [keyD, W.alike]
  · cases hx
    cases hy
  · cases hx
    cases hy
  · simp [keyD, W.alike]
theorem anti_key {b : Bool} {x y : Key} (hx : kin b x) (hy : kin b y) (h1 : W.dataLe false id (keyD x) (keyD y) = true) (h2 : W.dataLe false id (keyD y) (keyD x) = true) : x = y := by
  rw [le_lt, Bool.not_eq_true'] at h1 h2
  cases x <;> cases y
  · simp only [keyD, W.dataLt_int, decide_eq_false_iff_not] at h1 h2
    rename_i u v
    rw [show u = v by omega]
  · cases hx
    cases hy
  · cases hx
    cases hy
  · rename_i u v
    simp only [keyD, W.dataLt_str, decide_eq_false_iff_not] at h1 h2
    rw [W.str_of_cps (List.le_antisymm h1 h2)]
theorem dedup_keys {b : Bool} : ∀ (ks : List Key), (∀ k ∈ ks, kin b k) → ∃ L : List Key, dedup (ks.map keyD) = L.map keyD ∧ L.Nodup ∧ ∀ k, k ∈ L ↔ k ∈ ks
  | [], _ => ⟨[], rfl, .nil, fun _ => Iff.rfl⟩
  | x :: r, h => by
    obtain ⟨L, e, nd, m⟩ := dedup_keys r fun k hk => h k (List.mem_cons_of_mem _ hk)
    have hx := h x List.mem_cons_self
    have mem : memD (keyD x) (L.map keyD) = true ↔ x ∈ L := by
      unfold memD
      rw [List.any_map, List.any_eq_true]
      constructor
      · intro ⟨y, hy, q⟩
        have hyk := h y (List.mem_cons_of_mem _ ((m y).mp hy))
        rw [(eqv_key hyk hx).mp q] at hy
        exact hy
      · intro z
        exact ⟨x, z, (eqv_key hx hx).mpr rfl⟩
    rw [List.map_cons]
    unfold dedup
    rw [e]
    by_cases q : x ∈ L
    · rw [if_pos (mem.mpr q)]
      refine ⟨L, rfl, nd, fun k => ?_⟩
      rw [m k, List.mem_cons]
      refine ⟨.inr, fun z => z.elim (fun z => ?_) id⟩
      rw [z]
      exact (m x).mp q
    · rw [if_neg (fun z => q (mem.mp z))]
      refine ⟨x :: L, rfl, List.nodup_cons.mpr ⟨q, nd⟩, fun k => ?_⟩
      rw [List.mem_cons, List.mem_cons, m k]
theorem isort_keys {b : Bool} {L N : List Key} (hL : ∀ k ∈ L, kin b k) (p : L.Perm N) : isortD (L.map keyD) = isortD (N.map keyD) := by
  have anti : ∀ x y : D, x ∈ isortB (W.dataLe false id) (L.map keyD) → y ∈ isortB (W.dataLe false id) (N.map keyD) → W.dataLe false id x y = true → W.dataLe false id y x = true → x = y := fun x y hx hy h1 h2 => by
    obtain ⟨u, hu, rfl⟩ := List.mem_map.mp ((isortB_perm _).mem_iff.mp hx)
    obtain ⟨v, hv, rfl⟩ := List.mem_map.mp ((isortB_perm _).mem_iff.mp hy)
    rw [anti_key (hL u hu) (hL v (p.mem_iff.mpr hv)) h1 h2]
  rw [isortD_eqB, isortD_eqB]
  exact List.Perm.eq_of_pairwise (le := fun x y => W.dataLe false id x y = true) anti (isortB_sorted totD _) (isortB_sorted totD _) ((isortB_perm _).trans ((p.map keyD).trans (isortB_perm _).symm))
theorem putK_mem {k x : Key} {L : List Key} : x ∈ putK k L ↔ x = k ∨ x ∈ L := by
  unfold putK
  split
  · exact ⟨.inr, fun z => z.elim (fun e => e ▸ by assumption) id⟩
  · exact List.mem_cons
theorem SetX.nodup {w : World} {h : Heap} {a : Addr} {L : List Key} (R : SetX w h a L) : L.Nodup := by
  obtain ⟨_, _, _, _, _, _, _, _, _, nd, _⟩ := R
  exact nd

/-! ### the rules -/
def setO (w : World) (a : Addr) (L : List Key) : HO := .ext fun h => SetX w h a L
theorem rpA_keys {K : PySem.W.Frag} {H : Hp} : ∀ {vs : List V} {ks : List Key}, RpA K H vs (ks.map keyD) → vs = ks.map kV
  | _, [], r => by
    cases r
    rfl
  | _, k :: ks, r => by
    cases r with
    | cons h r =>
      rw [rpA_keys r, List.map_cons]
      cases k <;> (cases h; rfl)
theorem kV_is {k : Key} {u : Value} (h : RelV (kV k) u) : keyIs k u = true := by
  cases k with
  | inl i =>
    obtain ⟨t, rfl⟩ := h
    exact keyIs_int i t
  | inr i =>
    obtain ⟨t, rfl⟩ := h
    exact keyIs_str i t
section
variable {X : Cx} {β : Option Addr} {M : List Addr} {H : Hp} {s : Bx} {x : V} {a d : D} {Q : VK}
theorem set_zero {w : World} {h : Heap} {S : Addr} (e : h.get? S = some (set0 w)) : SetX w h S [] :=
  ⟨_, #[], 0, _, e, ⟨rfl, rfl, rfl⟩, rfl, (fun e he => by simp at he), .refl _, .nil, (by decide), (by rfl), List.Pairwise.nil, by
    show _ ∨ (!w.params.followText "set-order") = true
    cases w.params.followText "set-order"
    · exact .inr rfl
    · exact .inl rfl⟩
/-- what is behind i items -/
def SetAfter (w : World) (S : Addr) (ks : List Key) (i : Nat) (h : Heap) : Prop := ∃ L, SetX w h S L ∧ (∀ k, k ∈ L ↔ k ∈ ks.take i) ∧ L.length ≤ i
theorem op_set {k : Nat} (hr : Room k X.A) (hc : X.calm = true) {ds : List D} {ks : List Key} (e : seqOf a = some ds) (ek : ds = ks.map keyD) (few : ds.length < 4000) (hx : Rw X.K β M H x a)
    (q : ∀ p L, H p = none → L.Nodup → (∀ k, k ∈ L ↔ k ∈ ks) → Q (.ref p) (upd H p (setO X.w p L))) : wCl X (.type "set") [x] H Q := by
  subst ek
  obtain ⟨p, vs, rfl, h1, r1⟩ := hx.seq e
  have ev := rpA_keys r1
  subst ev
  rw [List.length_map] at few
  refine ⟨fun xs H Q => xs = [.ref p] ∧ (H p = some (.lst (ks.map kV)) ∨ SqT X.K H p (ks.map kV)) ∧ (∀ u L, H u = none → L.Nodup → (∀ k, k ∈ L ↔ k ∈ ks) → Q (.ref u) (upd H u (setO X.w u L))), ?_, rfl, h1, q⟩
  intro pins s σ H2 xs us Q2 I rs ⟨e0, h2, q2⟩
  subst e0
  cases rs with
  | cons rx rs =>
    cases rs
    cases rx
    obtain ⟨o, its, T, hT, ho, hcl, nn, hd, rv⟩ : ∃ (o : Obj) (its : List Value) (T : String), (T = "list" ∨ T = "tuple") ∧ s.heap.get? p = some o ∧ o.cls = .type T ∧ ∃ n, o.data = .seq its.toArray n ∧ Vals (ks.map kV) its := by
      rcases h2 with h2 | h2
      · obtain ⟨its, rv, ⟨o, n, ho, hcl, _, hd⟩, hz⟩ := I.list (X := X) (.inl (.inl h2))
        exact ⟨o, its, "list", .inl rfl, ho, hcl, n, hd, rv⟩
      · obtain ⟨its, rv, ⟨o, ho, hcl, n, hd⟩, hz⟩ := I.tuple h2
        exact ⟨o, its, "tuple", .inr rfl, ho, hcl, n, hd, rv⟩
    have lk : its.length = ks.length := by
      rw [← rv.length, List.length_map]
    have hu := hr.un
    refine set_of_seq hT (I.ok.hd hc) ho hcl hd (SetAfter X.w s.heap.objs.size ks) (fun h e _ => ⟨[], set_zero e, fun k => by simp, Nat.le_refl _⟩) (fun i h h' ⟨L, R, m, l⟩ k1 _ => ⟨L, R.at k1, m, l⟩) (fun R i v s1 Q3 hi hv ⟨L, R1, m, l⟩ kp q3 => ?_) fun h' tk ⟨L, R1, m, l⟩ kp => ?_
    · have hi2 : i < ks.length := by
        rw [List.size_toArray, lk] at hi
        exact hi
      have hk : (ks.map kV)[i]? = some (kV ks[i]) := by
        rw [List.getElem?_map, List.getElem?_eq_getElem hi2]
        rfl
      obtain ⟨u, hu1, ru⟩ := rv.get hk
      have eu : u = v := by
        have q := hv
        rw [List.getElem?_toArray, hu1] at q
        exact Option.some.inj q
      subst eu
      have kis := kV_is ru
      unfold setAdd
      refine wpAny_holding (wpAny_bind ((mixKind X.prog X.w).pyHash (k := ks[i]) kis ?_))
      have sb0 : scanBound = 4096 := rfl
      refine add_hashed (P := X.prog) kis R1 (by omega) fun b h2 sb R2 => ?_
      refine q3 b h2 _ (Nat.le_succ _) sb ⟨_, R2, fun k => ?_, ?_⟩
      · rw [putK_mem, m k, List.take_add_one, List.getElem?_eq_getElem hi2, List.mem_append]
        simp [or_comm]
      · unfold putK
        split
        · exact Nat.le_succ_of_le l
        · exact Nat.succ_le_succ l
    · have e1 : ks.take its.toArray.size = ks := List.take_of_length_le (by simp [lk])
      rw [e1] at m
      have hn : H2 s.heap.objs.size = none := I.hok.fresh (Nat.le_refl _)
      have R2 : ObjOk X.prog X.w (upd H2 s.heap.objs.size (setO X.w s.heap.objs.size L)) h' s.heap.objs.size (setO X.w s.heap.objs.size L) := by
        refine ⟨R1, ?_, fun h1 h2 R k => R.at k⟩
        obtain ⟨o, _, _, _, e, _⟩ := id R1
        exact ⟨o, e⟩
      exact ⟨.ref _, _, I.laid (t' := tk) kp (Nat.le_refl _) R2, rfl, q2 _ L hn R1.nodup m⟩
theorem setO_get {pins : List (Addr × Obj)} {σ : L2.St} {H : Hp} {s : Shared} {p : Addr} {L : List Key} (I : L2.Inv X pins σ H s) (h : H p = some (setO X.w p L)) : SetX X.w s.heap p L := (I.hok p _ h).1
/-- sorted of a set -/
theorem op_sortedSet {k : Nat} (hr : Room k X.A) (hc : X.calm = true) {b : Bool} {p : Addr} {L : List Key} (h : H p = some (setO X.w p L)) (hb : ∀ k ∈ L, kin b k) (ok : ∀ k ∈ L, shp (keyD k) = true)
    (q : ∀ u xs, H u = none → RpA X.K (hid M H) xs (isortD (L.map keyD)) → Q (.ref u) (upd H u (.lst xs))) : wCl X (.builtin "sorted") [.ref p] H Q := by
  refine ⟨fun vs H Q => vs = [.ref p] ∧ H p = some (setO X.w p L) ∧ (∀ u xs, H u = none → RpA X.K (hid M H) xs (isortD (L.map keyD)) → Q (.ref u) (upd H u (.lst xs))), ?_, rfl, h, q⟩
  intro pins s σ H2 vs us Q2 I rs ⟨e0, h2, q2⟩
  subst e0
  cases rs with
  | cons rx rs =>
    cases rs
    cases rx
    obtain ⟨o, es, ep, t, ho, hx, hd, gr, pm, nd, few, ft, rs, ld⟩ := setO_get I h2
    have ll : L.length ≤ sizeLine := by
      have := pm.length_eq
      have e1 := fits_of_scanBound few
      simp only [List.length_map, Array.length_toList] at this
      omega
    have mm : ∀ d ∈ L.map keyD, ∃ k ∈ L, d = keyD k := fun d hd => by
      obtain ⟨k, hk, e⟩ := List.mem_map.mp hd
      exact ⟨k, hk, e.symm⟩
    have coll : ∀ Qc : List Value → Shared → Prop, (∀ (N : List Key), N.Perm L → ∀ s1 us, (∀ b o, s.heap.get? b = some o → s1.heap.get? b = some o) → s1.gens = s.gens → s1.os = s.os → W.EachIs (ValD X.K (hid M H2)) us (N.map keyD) → Qc us s1) →
        wpAny (model X.prog X.w) X.A.in1 (PySem.collect (.ref p)) Qc X.xe s := fun Qc h => by
      refine collect_set (A := X.A.in1) (I.ok.hd hc) ⟨o, ho, hx.1, hd⟩ ft few rs ld fun s1 out kp _ hg hos pm2 => ?_
      have key : ∀ v ∈ out, ∃ k : Key, keyIs k v = true := fun v hv => by
        obtain ⟨e, he, rfl⟩ := List.mem_map.mp (pm2.mem_iff.mp hv)
        obtain ⟨k, hk, _⟩ := gr e he
        exact ⟨k, hk⟩
      have mk : ∀ l : List Value, (∀ v ∈ l, ∃ k : Key, keyIs k v = true) → W.EachIs (ValD X.K (hid M H2)) l ((l.map fun v => kOf (0, v)).map keyD) := by
        intro l
        induction l with
        | nil => exact fun _ => .nil
        | cons v r ih =>
          intro hl
          obtain ⟨k, hk⟩ := hl v List.mem_cons_self
          have e1 : kOf (0, v) = k := kOf_is (e := (0, v)) hk
          refine .cons ?_ (ih fun u hu => hl u (List.mem_cons_of_mem _ hu))
          show ValD X.K (hid M H2) v (keyD (kOf (0, v)))
          rw [e1]
          rcases keyIs_shape hk with ⟨i, t, rfl, rfl⟩ | ⟨i, t, rfl, rfl⟩
          · exact ⟨.int i, ⟨t, rfl⟩, .int i⟩
          · exact ⟨.str i, ⟨t, rfl⟩, .str i⟩
      refine h (out.map fun v => kOf (0, v)) ?_ s1 out kp hg hos (mk out key)
      have e2 : (out.map fun v => kOf (0, v)).Perm ((es.toList.map (·.2)).map fun v => kOf (0, v)) := pm2.map _
      rw [List.map_map] at e2
      exact e2.trans pm
    have kin2 : ∀ {N : List Key}, N.Perm L → ∀ k ∈ N, kin b k := fun pN k hk => hb k (pN.mem_iff.mp hk)
    refine sorted_by (M := M) hr (fun ds => ∃ N : List Key, N.Perm L ∧ ds = N.map keyD) I ?_ ?_ ?_ ?_ (fun Qc h => coll Qc fun N pN s1 us kp hg hos er => h s1 us _ ⟨N, pN, rfl⟩ kp hg hos er) ?_
    · intro ds ⟨N, pN, e⟩ d hd d' hd'
      subst e
      obtain ⟨k1, m1, rfl⟩ := List.mem_map.mp hd
      obtain ⟨k2, m2, rfl⟩ := List.mem_map.mp hd'
      exact alike_key (kin2 pN k1 m1) (kin2 pN k2 m2)
    · intro ds ⟨N, pN, e⟩
      subst e
      refine .inr fun d hd => ?_
      obtain ⟨k1, m1, rfl⟩ := List.mem_map.mp hd
      cases k1 <;> exact ⟨fun z => (by cases z), fun _ z => (by cases z)⟩
    · intro ds ⟨N, pN, e⟩ d hd
      subst e
      obtain ⟨k1, m1, rfl⟩ := List.mem_map.mp hd
      exact ok k1 (pN.mem_iff.mp m1)
    · intro ds ⟨N, pN, e⟩
      subst e
      rw [List.length_map, pN.length_eq]
      exact ll
    · intro s' u xs ds ⟨N, pN, e⟩ J hu r
      subst e
      rw [isort_keys (kin2 pN) pN] at r
      exact ⟨.ref u, _, J, rfl, q2 u xs hu r⟩
/-- len of a set -/
theorem op_lenSet {p : Addr} {L : List Key} (h : H p = some (setO X.w p L)) (q : Q (.int L.length) H) : wCl X (.builtin "len") [.ref p] H Q := by
  refine ⟨fun vs H Q => vs = [.ref p] ∧ H p = some (setO X.w p L) ∧ Q (.int L.length) H, ?_, rfl, h, q⟩
  intro pins s σ H2 vs us Q2 I rs ⟨e0, h2, q2⟩
  subst e0
  cases rs with
  | cons rx rs =>
    cases rs
    cases rx
    obtain ⟨o, es, ep, t, ho, hx, hd, gr, pm, nd, few, ft, rs, ld⟩ := setO_get I h2
    have e1 : es.size = L.length := by
      have := pm.length_eq
      simpa using this
    have e2 : scanBound = 4096 := rfl
    refine call_len_set ho hx hd ft (by omega) ⟨.int L.length, H2, I.tok _, ⟨_, by rw [e1]⟩, q2⟩
end
end Pd
end
section
/-! Pd: slots by data, where one stands, iterators, targets. -/
namespace Pd
open PySem PySem.Spec PyProof.Rows L2

/-! ### slots -/
def owns (ms : List (Option Addr)) : List Addr := ms.filterMap id
/-- the script: read, never written -/
def ScrV (K : PySem.W.Frag) (H : Hp) (v : V) (ns : List Int) : Prop := ∃ a, v = .ref a ∧ SqL K H a (ns.map V.int)
theorem ScrV.same {K : PySem.W.Frag} {H H' : Hp} {v : V} {ns : List Int} (h : ScrV K H v ns) (e : Same H H') : ScrV K H' v ns := by
  obtain ⟨a, rfl, h⟩ := h
  refine ⟨a, rfl, ?_⟩
  rcases h with (h | ⟨o, h⟩) | h
  · exact .inl (.inl (e _ _ h))
  · exact .inl (.inr ⟨o, e _ _ h⟩)
  · exact .inr h
/-- one slot: its value by its data -/
def SlotR (K : PySem.W.Frag) (β : Option Addr) (M : List Addr) (H : Hp) (x : Option (Option V)) (m : Option (Option Addr)) : Slot → Prop
  | .un => m = some none
  | .dat d => m = some none ∧ ∃ v, x = some (some v) ∧ Rp K (hid M H) v d
  | .own ds => ∃ p vs, m = some (some p) ∧ x = some (some (.ref p)) ∧ H p = some (.lst vs) ∧ RpA K (hid M H) vs ds
  | .box => m = some none ∧ ∃ b, β = some b ∧ x = some (some (.ref b))
  | .scr ns => m = some none ∧ ∃ v, x = some (some v) ∧ ScrV K (hid M H) v ns
structure SRel (K : PySem.W.Frag) (β : Option Addr) (M0 : List Addr) (ms : List (Option Addr)) (H : Hp) (σ : L2.St) (ρ : Env) : Prop where
  len : σ.length = ρ.length
  at_ : ∀ (i : Nat) (sl : Slot), ρ[i]? = some sl → SlotR K β (M0 ++ owns ms) H (σ[i]?) (ms[i]?) sl
  mlen : ms.length = ρ.length
  nd : (owns ms).Nodup
  ap : ∀ p ∈ owns ms, p ∉ M0 ∧ β ≠ some p
section
variable {K : PySem.W.Frag} {β : Option Addr} {M0 : List Addr} {ms : List (Option Addr)} {H H' : Hp} {σ : L2.St} {ρ : Env}
theorem mem_owns {p : Addr} {i : Nat} (h : ms[i]? = some (some p)) : p ∈ owns ms := List.mem_filterMap.mpr ⟨some p, List.mem_of_getElem? h, rfl⟩
theorem of_owns {p : Addr} (h : p ∈ owns ms) : ∃ i : Nat, ms[i]? = some (some p) := by
  obtain ⟨o, h1, h2⟩ := List.mem_filterMap.mp h
  have h2 : o = some p := h2
  subst h2
  exact List.getElem?_of_mem h1
theorem SRel.ownLst (S : SRel K β M0 ms H σ ρ) {p : Addr} (h : p ∈ owns ms) : ∃ vs, H p = some (.lst vs) := by
  obtain ⟨i, e⟩ := of_owns h
  have lt : i < ms.length := (List.getElem?_eq_some_iff.mp e).1
  rw [S.mlen] at lt
  have q := S.at_ i _ (List.getElem?_eq_getElem lt)
  generalize ρ[i] = sl at q
  cases sl with
  | un =>
    have q : ms[i]? = some none := q
    rw [e] at q
    cases q
  | dat d =>
    have q := q.1
    rw [e] at q
    cases q
  | scr ns =>
    have q := q.1
    rw [e] at q
    cases q
  | own ds =>
    obtain ⟨p', vs, q1, q2, q3, q4⟩ := q
    rw [e] at q1
    cases q1
    exact ⟨vs, q3⟩
  | box =>
    have q := q.1
    rw [e] at q
    cases q
theorem SRel.kept (k : Kept β (M0 ++ owns ms) H H') (S : SRel K β M0 ms H σ ρ) : SRel K β M0 ms H' σ ρ := by
  refine ⟨S.len, fun i sl e => ?_, S.mlen, S.nd, S.ap⟩
  have q := S.at_ i sl e
  cases sl with
  | un => exact q
  | dat d =>
    obtain ⟨q1, v, q2, q3⟩ := q
    exact ⟨q1, v, q2, q3.same k.same⟩
  | scr ns =>
    obtain ⟨q1, v, q2, q3⟩ := q
    exact ⟨q1, v, q2, q3.same k.same⟩
  | own ds =>
    obtain ⟨p, vs, q1, q2, q3, q4⟩ := q
    refine ⟨p, vs, q1, q2, ?_, q4.same k.same⟩
    exact (k.keep p (List.mem_append_right _ (mem_owns q1)) (S.ap p (mem_owns q1)).2).trans q3
  | box => exact q
end

/-! ### what is fixed for a def -/
/-- an exception by its class number and its value -/
structure EI where
  nm : Str
  fld : Option Str
  look : Bool
structure FI where
  nm : Str
  ps : List Str
structure G where
  N : List Str
  fns : List FI
  cons : List Str
  errs : List EI
  free : List Str
  bx : Option FI
  kws : List (Nat × List Str × List Nat)
  bk : Int
/-- what is known of an error that flies -/
def ErrR (K : PySem.W.Frag) (mg : Str → Option Value) (g : G) (M : List Addr) (c : Nat) (p : Option D) (cls : Value) (dd : Option Addr) (H : Hp) : Prop :=
  ∃ ei : EI, g.errs[c]? = some ei ∧ mg ei.nm = some cls ∧ match ei.fld, p with
    | none, none => dd = none
    | some f, some d => ∃ a v, dd = some a ∧ H a = some (.xd [(f, v)]) ∧ Rp K (hid M H) v d
    | _, _ => False
/-- arguments by their data -/
inductive RvA (K : PySem.W.Frag) (β : Option Addr) (H : Hp) : List V → List Val → Prop
  | nil : RvA K β H [] []
  | dat {v : V} {vs : List V} {d : D} {as : List Val} : Rp K H v d → RvA K β H vs as → RvA K β H (v :: vs) (.dat d :: as)
  | box {b : Addr} {vs : List V} {as : List Val} : β = some b → RvA K β H vs as → RvA K β H (.ref b :: vs) (.box :: as)
  | scr {v : V} {ns : List Int} {vs : List V} {as : List Val} : ScrV K H v ns → RvA K β H vs as → RvA K β H (v :: vs) (.scr ns :: as)
/-- what a def promises, by its function -/
def spF (K : PySem.W.Frag) (mg : Str → Option Value) (g : List EI) (F : Fn) (n : Nat) : Sp := fun vs H Q E => vs.length = n ∧ ∃ (β : Option Addr) (M : List Addr) (s : Bx) (as : List Val),
  BoxAt β H s ∧ Live M H ∧ (∀ b, β = some b → b ∈ M) ∧ RvA K β (hid M H) vs as ∧ match F as s with
    | .bad => False
    | .ok d s' => ∀ v H', Ext β M H s H' s' → Rp K (hid M H') v d → Q v H'
    | .exc c p s' => ∀ cls dd H', Ext β M H s H' s' → ErrR K mg ⟨[], [], [], g, [], none, [], 0⟩ M c p cls dd H' → E cls dd H'
/-- the scope that runs, the scope as written, is it a def's own frame -/
structure Sk where
  run : Scope
  wr : Scope
  top : Bool
/-- how an error of the class at C is made -/
def MkF (prog : Program) (K : PySem.W.Frag) (C : Addr) : Option Str → Prop
  | none => ∃ (B newId initId : String) (bmB : List Value), ExcBaseFacts B newId initId bmB ∧ PySem.W.excIn K C bmB newId = true
  | some f => ∃ (B newId initId : String) (bmB : List Value) (fI : Addr) (q : Str), PdX.BaseF B newId initId bmB ∧ PdX.ErrT prog K C fI q f newId bmB ∧ f ≠ "self" ∧ (f == ("__debug__" : Str)) = false ∧ (("super" : Str) == f) = false ∧ (("__class__" : Str) == f) = false ∧ PdX.BindF f
/-- what is known of an error's class -/
structure ErF (prog : Program) (K : PySem.W.Frag) (mg : Str → Option Value) (ei : EI) (C : Addr) : Prop where
  gC : mg ei.nm = some (.ref C)
  kC : PySem.W.keepIn K (.ref C) = true
  tyC : PySem.W.typeIn K (.ref C) = some (.type "type")
  ex : ExcC K C
  lk : PySem.W.kitOne K (.ref C) (.type "LookupError") = some ei.look
  vl : PySem.W.kitOne K (.ref C) (.type "ValueError") = some (!ei.look)
  mak : MkF prog K C ei.fld
def visB (sc : Scope) (x : Str) : Bool := match sc.names.lookup x with
  | some .local => true
  | some .cell => true
  | some .free => true
  | _ => false
def stoB (sc : Scope) (x : Str) : Bool := match sc.names.lookup x with
  | some .local => true
  | some .cell => true
  | _ => false
def gloB (sc : Scope) (x : Str) : Bool := match sc.names.lookup x with
  | some .globalImplicit => true
  | _ => false
theorem visB_ok {sc : Scope} {x : Str} (h : visB sc x = true) : Vis sc x := by
  unfold visB at h
  split at h <;> first | exact .inl (by assumption) | exact .inr (.inl (by assumption)) | exact .inr (.inr (by assumption)) | cases h
theorem gloB_ok {sc : Scope} {x : Str} (h : gloB sc x = true) : sc.names.lookup x = some .globalImplicit := by
  unfold gloB at h
  split at h <;> first | assumption | cases h
/-- what the maker of boxes promises -/
def spNew (K : PySem.W.Frag) (kz : Int) : Sp := fun vs H Q _ => vs.length = 2 ∧ ∃ (β : Option Addr) (M : List Addr) (s bs : Bx) (x y : V) (u v : D), vs = [x, y] ∧ BoxAt β H s ∧ Live M H ∧ (∀ b, β = some b → b ∈ M) ∧ Rp K (hid M H) x u ∧ Rp K (hid M H) y v ∧ boxF kz u v = some bs ∧
  ∀ p H', Ext β M H s H' s → H p = none → H' p = some (.lst [.int bs.a, .int bs.b, .int bs.c]) → Q (.ref p) H'
/-- a call by keywords ks: the parameters' order by pm -/
def KwB (K : PySem.W.Frag) (fd : FuncData) (ps : List Str) (ks : List Str) (pm : List Nat) : Prop :=
  pm.length = ps.length ∧ (∀ i ∈ pm, i < ks.length) ∧ ∀ (s : Shared) (ws : List Value), K.In s.heap → ws.length = ks.length → BindsTo s fd ⟨[], ks.zip ws⟩ (ps.zip (pmL pm ws))
structure GF (g : G) (Φ : Nat → Fn) (Cn : List D) (k : Nat) (X : Cx) : Prop where
  fn : ∀ (i : Nat) (fi : FI), g.fns[i]? = some fi → ∃ f fd, X.mg fi.nm = some (.ref f) ∧ PySem.W.keepIn X.K (.ref f) = true ∧ Binds X.K fd fi.ps [] ∧ FnOk X.prog X.w X.K X.mg X.base (L2.CX X.prog X.w) k f fd fi.ps (spF X.K X.mg g.errs (Φ i) fi.ps.length) ∧ ∀ ks pm, (i, ks, pm) ∈ g.kws → KwB X.K fd fi.ps ks pm
  lenF : ∀ (i : Nat) (fi : FI) (as : List Val) (s : Bx), g.fns[i]? = some fi → as.length ≠ fi.ps.length → Φ i as s = .bad
  con : ∀ (i : Nat) (nm : Str), g.cons[i]? = some nm → ∃ (d : D) (u : Value) (v : V), Cn[i]? = some d ∧ X.mg nm = some u ∧ RelV v u ∧ ∀ H, Rp X.K H v d
  free : ∀ nm ∈ g.free, X.mg nm = none
  er : ∀ (i : Nat) (ei : EI), g.errs[i]? = some ei → ∃ C, ErF X.prog X.K X.mg ei C
  exm : ∀ (i j : Nat) (ei ej : EI) (ci cj : Value), g.errs[i]? = some ei → g.errs[j]? = some ej → X.mg ei.nm = some ci → X.mg ej.nm = some cj → PySem.W.exmOne X.K ci cj = some (decide (i = j))
  bxs : ∀ fi, g.bx = some fi → ∃ f fd, X.mg fi.nm = some (.ref f) ∧ PySem.W.keepIn X.K (.ref f) = true ∧ Binds X.K fd fi.ps [] ∧ FnOk X.prog X.w X.K X.mg X.base (L2.CX X.prog X.w) k f fd fi.ps (spNew X.K g.bk)
/-- a frame or a comprehension's block of the def -/
structure Good (g : G) (Φ : Nat → Fn) (Cn : List D) (k : Nat) (sc : Sk) (X : Cx) (W : WX) : Prop where
  gf : GF g Φ Cn k X
  nm : X.N = g.N
  nd : X.N.Nodup
  sc_ : X.env.scope = sc.run
  calm : X.calm = true
  room : Room k X.A
  tk : Takes X W
  pso : PassesOwn (model X.prog X.w) X.A X.env X.xe
  fr : sc.top = true → X.stack = X.env :: X.outer ∧ X.env.frame = some X.env.locals
  fnm : ∀ x, stoB sc.wr x = true → Loc sc.run x ∧ (X.fn x = true ∨ sc.run.names.lookup x = some .local)
/-- where an expression is asked -/
structure At (g : G) (Φ : Nat → Fn) (Cn : List D) (k : Nat) (sc : Sk) (X : Cx) (W : WX) (β : Option Addr) (M0 : List Addr) (ms : List (Option Addr)) (H : Hp) (σ : L2.St) (ρ : Env) (s : Bx) : Prop where
  good : Good g Φ Cn k sc X W
  rel : SRel X.K β M0 ms H σ ρ
  box : BoxAt β H s
  live : Live M0 H
  bin : ∀ b, β = some b → b ∈ M0
section
variable {g : G} {Φ : Nat → Fn} {Cn : List D} {k : Nat} {sc : Sk} {X : Cx} {W : WX} {β : Option Addr} {M0 : List Addr} {ms : List (Option Addr)} {H H1 : Hp} {σ : L2.St} {ρ : Env} {s s1 : Bx}
theorem At.liveA (A : At g Φ Cn k sc X W β M0 ms H σ ρ s) : Live (M0 ++ owns ms) H := fun a ha => by
  rcases List.mem_append.mp ha with ha | ha
  · exact A.live a ha
  · obtain ⟨vs, e⟩ := A.rel.ownLst ha
    exact ⟨_, e⟩
theorem At.ext (A : At g Φ Cn k sc X W β M0 ms H σ ρ s) (e : Ext β (M0 ++ owns ms) H s H1 s1) : At g Φ Cn k sc X W β M0 ms H1 σ ρ s1 :=
  ⟨A.good, A.rel.kept e.toKept, e.box, fun a ha => e.live A.liveA a (List.mem_append_left _ ha), A.bin⟩
end

/-! ### what is wanted behind an expression -/
abbrev WW (W : WX) (σ : L2.St) : Value → Option Addr → Hp → Prop := fun cls dd H => W cls dd σ H
def PostE (K : PySem.W.Frag) (mg : Str → Option Value) (g : G) (W : WX) (σ : L2.St) (β : Option Addr) (M : List Addr) (H : Hp) (s : Bx) (own : Bool) (r : Res D) (Q : VK) : Prop := match r with
  | .bad => False
  | .ok d s' => ∀ v H', Ext β M H s H' s' → Rw K β M H' v d → (own = false → Rp K (hid M H') v d) → Q v H'
  | .exc c p s' => ∀ cls dd H', Ext β M H s H' s' → ErrR K mg g M c p cls dd H' → W cls dd σ H'
/-- behind anything that gives an α -/
def PostM {α : Type} (K : PySem.W.Frag) (mg : Str → Option Value) (g : G) (W : WX) (σ : L2.St) (β : Option Addr) (M : List Addr) (H : Hp) (s : Bx) (r : Res α) (Q : α → Hp → Bx → Prop) : Prop := match r with
  | .bad => False
  | .ok d s' => ∀ H', Ext β M H s H' s' → Q d H' s'
  | .exc c p s' => ∀ cls dd H', Ext β M H s H' s' → ErrR K mg g M c p cls dd H' → W cls dd σ H'
section
variable {K : PySem.W.Frag} {mg : Str → Option Value} {g : G} {W : WX} {σ : L2.St} {β : Option Addr} {M : List Addr} {H H1 : Hp} {s s1 : Bx} {own : Bool} {Q Q' : VK} {α γ : Type}
theorem PostE.from {r : Res D} (h : PostE K mg g W σ β M H s own r Q) (e : Ext β M H s H1 s1) : PostE K mg g W σ β M H1 s1 own r Q := by
  cases r with
  | bad => exact h
  | ok d s' => exact fun v H' e' => h v H' (e.trans e')
  | exc c p s' => exact fun cls dd H' e' => h cls dd H' (e.trans e')
theorem PostM.from {r : Res α} {Q : α → Hp → Bx → Prop} (h : PostM K mg g W σ β M H s r Q) (e : Ext β M H s H1 s1) : PostM K mg g W σ β M H1 s1 r Q := by
  cases r with
  | bad => exact h
  | ok d s' => exact fun H' e' => h H' (e.trans e')
  | exc c p s' => exact fun cls dd H' e' => h cls dd H' (e.trans e')
end
end Pd
end
section
/-! Pd: enumerate over a tuple. -/
namespace PySem
set_option maxHeartbeats 1000000 in
theorem pd_meets_enum {v : Value} {o : Obj} {H : Heap → Prop} (B : Begins v o H) :
    Meets (Builtin.«enumerate.__new__» ⟨[.type "enumerate", v], []⟩) (fun _ R s => H s.heap ∧
      R (.ok (.ret (.ref (s.heap.push o).objs.size))) { s with heap := (s.heap.push o).push { cls := .type "enumerate", data := .fields #[.none, .bool false, .ref s.heap.objs.size, rawInt 0, .none, .none] } }) :=
  .of_wp fun prog w A R s h => by
    obtain ⟨hp, g, d, tk, os⟩ := s; obtain ⟨h1, h⟩ := h
    have hsub := sub_enumerate
    have q1 : ∀ {A' : Around} {E : Value → Shared → Prop} {Q : Value → Shared → Prop}, Q (.ref hp.objs.size) ⟨hp.push o, g, d, tk, os⟩ → wpAny (model prog w) A' (pyIter v) Q E ⟨hp, g, d, tk, os⟩ :=
      fun q => B.iter prog w _ _ ⟨hp, g, d, tk, os⟩ _ h1 q
    wp_walk using q1
    refine wpAny_stack_any fun st => wpAny_pure ?_
    split
    · rename_i c _ _ _ _ _
      cases (c == Value.type "enumerate")
      · wp_walk using q1
        exact ⟨_, rfl, h⟩
      · wp_walk using q1
        exact ⟨_, rfl, h⟩
    · wp_walk using q1
      exact ⟨_, rfl, h⟩
theorem pd_call_enum {prog : Program} {w : World} {A : Around} {E : Value → Shared → Prop} {s : Shared} {v : Value} {o : Obj} {H : Heap → Prop} {Q : Value → Shared → Prop} (B : Begins v o H) (h1 : H s.heap)
    (h : ∀ h', IsEnum h' (s.heap.objs.size + 1) s.heap.objs.size 0 .none → h'.get? s.heap.objs.size = some o → h'.objs.size = s.heap.objs.size + 2 →
      (∀ b o, s.heap.get? b = some o → h'.get? b = some o) → Q (.ref (s.heap.objs.size + 1)) { s with heap := h' }) :
    wpAny (model prog w) A (call (.type "enumerate") [v]) Q E s := by
  refine callType_new F.called_enumerate (by decide) (F.typeCall_enumerate_1 _) (F.newCall_enumerate_1 _) (fun obj => F.args_object_init_2 obj _) F.entry_enumerate_new
    (pd_meets_enum B) ⟨h1, ?_⟩
  have hz : (s.heap.push o).objs.size = s.heap.objs.size + 1 := Heap.size_push ..
  show _ ∧ _
  rw [hz]
  have he : IsEnum ((s.heap.push o).push { cls := .type "enumerate", data := .fields #[.none, .bool false, .ref s.heap.objs.size, rawInt 0, .none, .none] }) (s.heap.objs.size + 1) s.heap.objs.size 0 .none := by
    have := Heap.get?_push_size (s.heap.push o) (o := { cls := .type "enumerate", data := .fields #[.none, .bool false, .ref s.heap.objs.size, rawInt 0, .none, .none] }) rfl
    rw [hz] at this; exact this
  refine ⟨⟨_, he, rfl⟩, h _ he (Heap.get?_push_of_some _ (Heap.get?_push_size _ B.free)) (by rw [Heap.size_push, hz]) fun b o x => Heap.get?_push_of_some _ (Heap.get?_push_of_some _ x)⟩
end PySem
namespace L2
open PySem PySem.Spec PyProof.Rows
/-- the tuple at a, each item in a new pair -/
def ItT (K : PySem.W.Frag) (a : Addr) : It :=
  ⟨fun i H => ∃ (xs : List V) (x : V), SqT K H a xs ∧ xs[i]? = some x, fun i H v H' => ∃ T x, v = .ref T ∧ H T = none ∧ H' = upd H T (.tup [.int (i : Nat), x]) ∧ ∀ xs, SqT K H a xs → xs[i]? = some x, fun i H => ∃ xs : List V, SqT K H a xs ∧ xs.length ≤ i⟩
theorem walk_enumT {K : PySem.W.Frag} {a : Addr} {xs : List V} : Walk (ItT K a) xs.length (fun H => SqT K H a xs) (YPair (fun i => some (.int (i : Nat))) (fun i => xs[i]?)) :=
  ⟨fun i _ hi q => ⟨xs, xs[i], q, by simp [hi]⟩, fun _ q => ⟨xs, q, Nat.le_refl _⟩, fun i _ _ _ _ q ⟨T, x, e1, e2, e3, e4⟩ => ⟨T, _, x, e1, e2, e3, rfl, e4 xs q⟩⟩
theorem turn_enumT {P : Program} {w : World} {K : PySem.W.Frag} {elts : List Expr} {kk : Nat} {tpos : Pos} (a e it : Addr) :
    Turn P w K (.Tuple elts kk tpos) (ItT K a) [e, it] e (fun i h => (∃ old, IsEnum h e it ((i : Nat) : Int) old) ∧ h.IsTupleIter it a i ∧ e ≠ it ∧ e ≠ a ∧ a ≠ it) where
  mem := by simp
  obj := fun i h st b hb => by
    obtain ⟨⟨old, he⟩, ⟨o, ho, hc, hd⟩, _⟩ := st
    have e' : b = e ∨ b = it := by simpa using hb
    rcases e' with z | z
    · rw [z]; exact ⟨_, he, fun v q => nomatch q⟩
    · rw [z]; exact ⟨o, ho, fun v q => by rw [hd] at q; cases q⟩
  keep := fun i h h' st k => let ⟨⟨old, he⟩, hi, hne⟩ := st; ⟨⟨old, k e (by simp) _ he⟩, hi.at fun o q => k it (by simp) o q, hne⟩
  item := by
    intro X hP hw hK hc i pins s σ H E I hf st hg
    subst hP hw hK
    obtain ⟨⟨old, he⟩, hit, hne, hea, hai⟩ := st
    obtain ⟨xs, x, hq, hx⟩ := hg
    obtain ⟨its, rv, p, hz⟩ := I.tuple hq
    obtain ⟨u, hu, ru⟩ := rv.get hx
    have hel : e < s.heap.objs.size := Heap.lt_size he
    have hil : it < s.heap.objs.size := by obtain ⟨_, q, _⟩ := hit; exact Heap.lt_size q
    have hlt : i < its.toArray.size := by
      have := (List.getElem?_eq_some_iff.mp hu).1
      simpa using this
    have pt : s.heap.IsTuple a its.toArray := p
    have hh : X.A.in1.handled = none := I.ok.hd hc
    refine wpAny_pyNext_enum_itemD (Draws.tuple hh it a hai its.toArray) he ⟨hit, pt⟩ hlt hne (by simp [hne, hea]) fun x' h' tk px ho hst' hT hsz hk => ?_
    have ex : x' = u := by
      have px : its.toArray[i]? = some x' := px
      have hu' : its.toArray[i]? = some u := by simpa using hu
      rw [hu'] at px
      exact (Option.some.inj px).symm
    subst ex
    refine ⟨_, rfl, wpAny_letOwnedTupleGo_enum (s := { s with heap := h', toks := tk + 1 }) ho fun h'' he' sb => ?_⟩
    have hT2 : h''.get? s.heap.objs.size = some { cls := .type "tuple", data := .seq #[.int i tk, x'] } := (sb.2 _ (Nat.ne_of_gt hel)).trans hT
    have new : ObjOk X.prog X.w (upd H s.heap.objs.size (.tup [.int (i : Nat), x])) h'' s.heap.objs.size (.tup [.int (i : Nat), x]) :=
      ⟨by show 2 ≤ sizeLine; decide, [.int i tk, x'], .cons ⟨_, rfl⟩ (.cons ru .nil), ⟨_, hT2, rfl, _, rfl⟩⟩
    have I1 : Inv X pins σ (upd H s.heap.objs.size (.tup [.int (i : Nat), x])) { s with heap := h'', toks := tk + 1 } :=
      I.turnedNew (ch := [e, it]) (fun b ob hb q => (sb.2 b (fun z => hb (by simp [z]))).trans (hk b ob (fun z => hb (by simp [z])) (fun z => hb (by simp [z])) q)) hf (Nat.le_refl _) new
    refine ⟨.ref s.heap.objs.size, _, I1, rfl, ⟨_, x, rfl, I.hok.fresh (Nat.le_refl _), rfl, fun ys hy => by rw [I.tuple_inj hy hq]; exact hx⟩, ⟨⟨x', ?_⟩, hst'.1.at fun o q => (sb.2 it (Ne.symm hne)).trans q, hne, hea, hai⟩, fun b hb => ?_⟩
    · have e1 : ((i + 1 : Nat) : Int) = (i : Int) + 1 := by omega
      rw [e1]; exact he'
    · have hb' : b < s.heap.objs.size := by
        have e' : b = e ∨ b = it := by simpa using hb
        rcases e' with z | z
        · rw [z]; exact hel
        · rw [z]; exact hil
      rw [upd_ne (Nat.ne_of_lt hb')]
      exact (hf b hb).1
  done := by
    intro X hP hw hK hc i pins s σ H E I hf st hg
    subst hP hw hK
    obtain ⟨⟨old, he⟩, hit, hne, hea, hai⟩ := st
    obtain ⟨xs, hq, hx⟩ := hg
    obtain ⟨its, rv, p, hz⟩ := I.tuple hq
    obtain ⟨f0, f1, f2, f3, f4, f5⟩ := hf it (by simp)
    have hl := rv.length
    have pt : s.heap.IsTuple a its.toArray := p
    have hh : X.A.in1.handled = none := I.ok.hd hc
    have hT : s.TypeIs (.ref e) "enumerate" := ⟨_, he, rfl⟩
    show wpAny _ _ (pyNext (.ref e)) _ _ _
    unfold pyNext
    refine wpAny_bind (wpAny_attempt (wpAny_callSpecial?_slot (name := PySem.Str.ofString "__next__") hT F.slot_enumerate_next
      (wpAny_call_entry F.slot_enumerate_next hT F.entry_enumerate_next ?_ (F.args_enumerate_next_1 _))))
    show wpAny _ _ (field (.ref e) 2 >>= _) _ _ _
    refine wpAny_bind (wpAny_field he rfl (x := .ref it) rfl ?_)
    refine wpAny_bind (wpAny_nextOf_tuple_end hh hit pt (by simp; omega) fun h' x he' hx' => ?_)
    obtain ⟨o, ho, hc'⟩ := hx'
    refine wpAny_bind (wpAny_isInstance (T := "StopIteration") (b := true) ⟨o, ho, hc'⟩ isSubtype_stop ?_)
    exact wpAny_pure ⟨rfl, I.turned (t' := s.toks) (fun b o hb q => he' b o hb q) f0 f1 f3 f4 f5⟩
  self := fun A i s Q E st h => let ⟨⟨_, he⟩, _⟩ := st; wpAny_pyIter_enum he h
def iEnumT (K : PySem.W.Frag) (ta : TA) : TI := fun σ H R => ta σ H fun vs H1 => ∃ a xs, vs = [.ref a] ∧ SqT K H1 a xs ∧ R (ItT K a) H1
theorem pi_enumT {X : Cx} {e : Expr} {ta : TA} {p pos tpos : Pos} {elts : List Expr} {kk : Nat} (hg : Gl X "enumerate") (hm : X.mg "enumerate" = none) (ha : PA X [e] ta) (hs : starEach [e] X.env = [(false, eval e X.env)] := by rfl) :
    PI X (.Tuple elts kk tpos) (.Call (.Name "enumerate" p) [e] [] pos) (iEnumT X.K ta) := by
  refine ⟨fun pins s σ H R I h => ?_⟩
  refine Call_ (ld_blt I hg hm boot_enumerate (PyProof.Rows.callWith_type1 (thn (ha.run pos pins s σ H _ I h) fun us s1 ⟨vs, H1, I1, r1, q1⟩ => ?_) hs rfl))
  obtain ⟨a, xs, ex, hq, q⟩ := q1
  subst ex
  cases r1 with
  | cons r rr =>
    cases rr
    cases r
    obtain ⟨its, rv, p', hz⟩ := I1.tuple hq
    have pt : s1.heap.IsTuple a its.toArray := p'
    have hal : a < s1.heap.objs.size := by
      obtain ⟨o, q, _⟩ := pt
      exact Heap.lt_size q
    refine pd_call_enum (begins_tuple a its.toArray) pt fun h' he hit hsz hk => wpAny_pyIter_enum he ?_
    have I2 : Inv X pins σ H1 { s1 with heap := h' } := I1.kept (t' := s1.toks) hk
    refine ⟨s1.heap.objs.size + 1, [s1.heap.objs.size + 1, s1.heap.objs.size], _, _, H1, rfl, I2, turn_enumT a (s1.heap.objs.size + 1) s1.heap.objs.size,
      ⟨⟨.none, he⟩, ⟨_, hit, rfl, rfl⟩, Nat.succ_ne_self _, Nat.ne_of_gt (Nat.lt_succ_of_lt hal), Nat.ne_of_lt hal⟩, fun b hb => ?_, q⟩
    have e' : b = s1.heap.objs.size + 1 ∨ b = s1.heap.objs.size := by simpa using hb
    have hle : s1.heap.objs.size ≤ b := by
      rcases e' with z | z
      · rw [z]; exact Nat.le_add_right _ _
      · rw [z]; exact Nat.le_refl _
    exact I1.fpOk hle (I1.hok.fresh hle)
end L2
end
section
/-! Pd: expressions, by rules. -/
namespace Pd
open PySem PySem.Spec PyProof.Rows L2

section
variable {K : PySem.W.Frag} {mg : Str → Option Value} {g : G} {W : WX} {σ : L2.St} {β : Option Addr} {M : List Addr} {H H1 : Hp} {s s1 : Bx} {own : Bool} {Q Q' : VK} {α γ : Type}
theorem PostM.imp {r : Res α} {Q Q' : α → Hp → Bx → Prop} (h : PostM K mg g W σ β M H s r Q) (k : ∀ a H' s', Ext β M H s H' s' → Q a H' s' → Q' a H' s') : PostM K mg g W σ β M H s r Q' := by
  cases r with
  | bad => exact h
  | ok d s' => exact fun H' e => k d H' s' e (h H' e)
  | exc c p s' => exact h
theorem PostE.bind {m : Pd.M α} {f : α → Pd.M D} (h : PostE K mg g W σ β M H s own (Pd.M.bind m f s) Q) : PostM K mg g W σ β M H s (m s) (fun a H' s' => PostE K mg g W σ β M H' s' own (f a s') Q) := by
  unfold Pd.M.bind at h
  cases e : m s with
  | bad =>
    rw [e] at h
    exact h
  | ok a s' =>
    rw [e] at h
    exact fun H' x => PostE.from h x
  | exc c p s' =>
    rw [e] at h
    exact h
theorem PostM.bind {m : Pd.M γ} {f : γ → Pd.M α} {Q : α → Hp → Bx → Prop} (h : PostM K mg g W σ β M H s (Pd.M.bind m f s) Q) : PostM K mg g W σ β M H s (m s) (fun a H' s' => PostM K mg g W σ β M H' s' (f a s') Q) := by
  unfold Pd.M.bind at h
  cases e : m s with
  | bad =>
    rw [e] at h
    exact h
  | ok a s' =>
    rw [e] at h
    exact fun H' x => PostM.from h x
  | exc c p s' =>
    rw [e] at h
    exact h
theorem mb_assoc {α γ δ : Type} (m : Pd.M α) (f : α → Pd.M γ) (h : γ → Pd.M δ) : Pd.M.bind (Pd.M.bind m f) h = Pd.M.bind m fun a => Pd.M.bind (f a) h := by
  funext s
  unfold Pd.M.bind
  cases m s <;> rfl
theorem PostM.assoc {δ : Type} {m : Pd.M δ} {f : δ → Pd.M γ} {h : γ → Pd.M α} {Q : α → Hp → Bx → Prop} (q : PostM K mg g W σ β M H s (Pd.M.bind (Pd.M.bind m f) h s) Q) : PostM K mg g W σ β M H s (Pd.M.bind m (fun a => Pd.M.bind (f a) h) s) Q := by
  rw [mb_assoc] at q
  exact q
theorem PostM.here {a : α} {Q : α → Hp → Bx → Prop} (h : PostM K mg g W σ β M H s (Pd.M.pure a s) Q) (bx : BoxAt β H s) : Q a H s := h H (Ext.refl bx)
theorem PostE.ans {d : D} (h : PostE K mg g W σ β M H s own (Pd.M.pure d s) Q) : Ans K β M H s d Q := fun v H' e r => h v H' e (.rp r) fun _ => r
theorem PostE.opt {o : Option D} (h : PostE K mg g W σ β M H s own (Pd.M.ofOpt o s) Q) : ∃ d, o = some d ∧ Ans K β M H s d Q := by
  cases o with
  | none => exact h.elim
  | some d => exact ⟨d, rfl, PostE.ans (own := own) h⟩
theorem PostM.opt {o : Option α} {Q : α → Hp → Bx → Prop} (h : PostM K mg g W σ β M H s (Pd.M.ofOpt o s) Q) (bx : BoxAt β H s) : ∃ d, o = some d ∧ Q d H s := by
  cases o with
  | none => exact h.elim
  | some d => exact ⟨d, rfl, h H (Ext.refl bx)⟩
end

section
variable (g : G) (Φ : Nat → Fn) (Cn : List D) (k : Nat) (sc : Sk)
def SE (e : Expr) (m : Env → M D) (own : Env → Bool) : Prop := ∀ (X : Cx) (W : WX) (β : Option Addr) (M0 : List Addr) (ms : List (Option Addr)) (H : Hp) (σ : L2.St) (ρ : Env) (s : Bx) (Q : VK), At g Φ Cn k sc X W β M0 ms H σ ρ s →
  PostE X.K X.mg g W σ β (M0 ++ owns ms) H s (own ρ) (m ρ s) Q → wE X e σ H Q
/-- items of a display -/
def SL (es : List Expr) (m : Env → M (List D)) : Prop := ∀ (X : Cx) (W : WX) (β : Option Addr) (M0 : List Addr) (ms : List (Option Addr)) (H : Hp) (σ : L2.St) (ρ : Env) (s : Bx) (Q : List V → Hp → Prop), At g Φ Cn k sc X W β M0 ms H σ ρ s →
  PostM X.K X.mg g W σ β (M0 ++ owns ms) H s (m ρ s) (fun ds H' s' => ∀ vs, RpA X.K (hid (M0 ++ owns ms) H') vs ds → Q vs H') → wA X es σ H Q
/-- a test -/
def ST (e : Expr) (m : Env → M Bool) : Prop := ∀ (X : Cx) (W : WX) (β : Option Addr) (M0 : List Addr) (ms : List (Option Addr)) (H : Hp) (σ : L2.St) (ρ : Env) (s : Bx) (Q : Bool → Hp → Prop), At g Φ Cn k sc X W β M0 ms H σ ρ s →
  PostM X.K X.mg g W σ β (M0 ++ owns ms) H s (m ρ s) (fun b H' _ => Q b H') → wT X e σ H Q
end
section
variable {g : G} {Φ : Nat → Fn} {Cn : List D} {k : Nat} {sc : Sk} {X : Cx} {W : WX} {β : Option Addr} {M0 : List Addr} {ms : List (Option Addr)} {H : Hp} {σ : L2.St} {ρ : Env} {s : Bx} {Q R : VK}
variable {a b c e : Expr} {ma mb mc : Env → M D} {oa ob oc : Env → Bool} {pos p2 : Pos}
theorem SE.use (h : SE g Φ Cn k sc a ma oa) (A : At g Φ Cn k sc X W β M0 ms H σ ρ s)
    (q : PostM X.K X.mg g W σ β (M0 ++ owns ms) H s (ma ρ s) (fun x H1 s1 => ∀ v, Rw X.K β (M0 ++ owns ms) H1 v x → (oa ρ = false → Rp X.K (hid (M0 ++ owns ms) H1) v x) → R v H1)) : wE X a σ H R := by
  refine h X W β M0 ms H σ ρ s R A ?_
  cases e : ma ρ s with
  | bad =>
    rw [e] at q
    exact q
  | ok d s' =>
    rw [e] at q
    exact fun v H' x r o => q H' x v r o
  | exc c p s' =>
    rw [e] at q
    exact q
theorem trB {x : V} {d : D} {bb : Bool} {K : PySem.W.Frag} {M : List Addr} (h : truth d = some bb) (r : Rw K β M H x d) : TruV K x H bb := by
  cases d with
  | none =>
    cases r.none
    cases h
    rfl
  | bool i =>
    cases r.bool
    cases h
    rfl
  | int i =>
    cases r.int
    cases h
    rfl
  | str i =>
    cases r.str
    have h : (if i.length ≤ lim then some (i.length != 0) else Option.none) = some bb := h
    split at h
    · rename_i hl
      cases h
      refine ⟨hl, ?_⟩
      rw [Bool.eq_iff_iff]
      simp
    · cases h
  | list xs =>
    obtain ⟨p, vs, rfl, h1, r1⟩ := r.list
    cases h
    exact .inl ⟨vs, .inl (.inl h1), by rw [r1.nil_iff]⟩
  | tuple xs =>
    obtain ⟨p, vs, rfl, h0, h1, r1⟩ := r.tuple
    cases h
    exact .inr (.inl ⟨vs, h1, by rw [r1.nil_iff]⟩)
  | dict xs =>
    cases r with
    | rp r =>
      cases r with
      | dic h1 r1 =>
        cases h
        refine .inr (.inr ⟨_, (hid_some.mp h1).2, ?_⟩)
        cases r1 <;> rfl

theorem e_bin {o : Operator} (ha : SE g Φ Cn k sc a ma oa) (hb : SE g Φ Cn k sc b mb ob) : SE g Φ Cn k sc (.BinOp a o b pos) (fun ρ => .bind (ma ρ) fun x => .bind (mb ρ) fun y => .ofOpt (binD o x y)) (fun _ => false) := by
  intro X W β M0 ms H σ ρ s Q A h
  refine wE.of (pe_op (wOp_op _) (wE_pe a) (wE_pe b)) ?_
  refine ha.use A (h.bind.imp fun x H1 s1 e1 h1 v r1 o1 => ?_)
  have A1 := A.ext e1
  refine hb.use A1 (h1.bind.imp fun y H2 s2 e2 h2 u r2 o2 => ?_)
  have A2 := A1.ext e2
  obtain ⟨d, ed, q⟩ := h2.opt
  exact op_bin A2.box A2.liveA ed (r1.ext e2.toKept) r2 q
theorem e_neg (ha : SE g Φ Cn k sc a ma oa) : SE g Φ Cn k sc (.UnaryOp .USub a pos) (fun ρ => .bind (ma ρ) fun x => match x with
    | .int i => .pure (.int (-i))
    | _ => .bad) (fun _ => false) := by
  intro X W β M0 ms H σ ρ s Q A h
  refine wE.of (pe_un un_neg (wE_pe a)) ?_
  refine ha.use A (h.bind.imp fun x H1 s1 e1 h1 v r1 o1 => ?_)
  cases x with
  | int i =>
    cases r1.int
    exact ⟨i, rfl, (PostE.ans (own := false) h1).here (A.ext e1).box (.int _)⟩
  | _ => exact h1.elim
def notSet : Expr → Bool
  | .Set _ _ _ => false
  | _ => true
theorem noMarks {o : CmpOp} {b : Expr} (h : notSet b = true) : behindInMarks o b = false := by
  cases b <;> first | rfl | cases h
theorem cut_dict {d : D} : isDict d = true → ∃ kvs, d = .dict kvs := by
  cases d with
  | dict kvs => exact fun _ => ⟨kvs, rfl⟩
  | _ => exact fun h => nomatch h
theorem dic_get {K : PySem.W.Frag} {H : Hp} {u : Str} : ∀ {kvs : List (Key × V)} {es : List (D × D)}, RpK K H kvs es → (∀ d, lookS u es = some d → ∃ v, valV kvs (.inr u) = some v ∧ Rp K H v d) ∧
    es.any (isKey u) = (valV kvs (.inr u)).isSome
  | _, _, .nil => ⟨fun d h => (by cases h), rfl⟩
  | _, _, .cons (k := kk) (v := v) (vs := vs) (d := d) (ds := ds) h r => by
    have ih := dic_get (u := u) r
    cases kk with
    | inl i =>
      have e1 : valV ((Sum.inl i, v) :: vs) (.inr u) = valV vs (.inr u) := by
        simp [valV]
      rw [e1]
      refine ⟨fun d' hd => ih.1 d' (by simpa [lookS, keyD] using hd), ?_⟩
      rw [List.any_cons, ih.2]
      rfl
    | inr z =>
      by_cases e : z = u
      · subst e
        have e1 : valV ((Sum.inr z, v) :: vs) (.inr z) = some v := by
          simp [valV]
        rw [e1]
        refine ⟨fun d' hd => ⟨v, rfl, ?_⟩, ?_⟩
        · have : d = d' := by simpa [lookS, keyD] using hd
          rw [← this]
          exact h
        · simp [keyD, isKey]
      · have e1 : valV ((Sum.inr z, v) :: vs) (.inr u) = valV vs (.inr u) := by
          have e2 : ¬ u = z := fun q => e q.symm
          simp [valV, e, e2]
        rw [e1]
        refine ⟨fun d' hd => ih.1 d' (by simpa [lookS, keyD, e] using hd), ?_⟩
        rw [List.any_cons, ih.2]
        simp [keyD, isKey, e]
theorem pc_of {o : CmpOp} {r : R2} {ta tb : TE} (ho : OpR X (compareOp o) r) (ha : PE X a ta) (hb : PE X b tb) : PC X o a b (tOp r ta tb) :=
  ⟨fun pins s σ H Q I h => binT ha hb I h fun v u s2 x y H2 I2 rx ry q => ho pins s2 σ H2 x y v u Q I2 rx ry q⟩
/-- a comparison: its reading is a PC -/
theorem cmp_core {o : CmpOp} {R : Bool → Hp → Prop} (ha : SE g Φ Cn k sc a ma oa) (hb : SE g Φ Cn k sc b mb ob) (A : At g Φ Cn k sc X W β M0 ms H σ ρ s)
    (h : PostM X.K X.mg g W σ β (M0 ++ owns ms) H s (Pd.M.bind (ma ρ) (fun x => .bind (mb ρ) fun y => .ofOpt (cmpD o x y)) s) (fun c H' _ => R c H')) :
    ∃ t, PC X o a b t ∧ t σ H (fun v H' => ∃ c, v = .bl c ∧ R c H') := by
  by_cases dd : (o = .In ∨ o = .NotIn) ∧ ∃ x s1 y s2 kvs, ma ρ s = .ok x s1 ∧ mb ρ s1 = .ok y s2 ∧ y = .dict kvs
  · obtain ⟨ho, x, s1, y, s2, kvs, ea, eb, rfl⟩ := dd
    have fin : ∀ (H2 : Hp) (s2' : Bx) (v u : V), At g Φ Cn k sc X W β M0 ms H2 σ ρ s2' → Rw X.K β (M0 ++ owns ms) H2 v x → Rw X.K β (M0 ++ owns ms) H2 u (.dict kvs) →
        PostM X.K X.mg g W σ β (M0 ++ owns ms) H2 s2' (Pd.M.ofOpt (cmpD o x (.dict kvs)) s2') (fun c H' _ => R c H') →
        ∃ (a : Addr) (r : Option V), u = .ref a ∧ DGet H2 a v r ∧ (o = .In → R r.isSome H2) ∧ (o = .NotIn → R (!r.isSome) H2) := fun H2 s2' v u A2 r1 r2 h2 => by
      obtain ⟨c, ec, q⟩ := h2.opt A2.box
      have ind : ∀ c', inD x (.dict kvs) = some c' → ∃ z, x = .str z ∧ c' = kvs.any (isKey z) := fun c' e => by
        unfold inD at e
        dsimp only at e
        split at e
        · cases e
          exact ⟨_, rfl, rfl⟩
        · cases e
      cases r2 with
      | rp r2 =>
        cases r2 with
        | dic hd rk =>
          rcases ho with rfl | rfl
          · obtain ⟨z, rfl, e2⟩ := ind c ec
            cases r1.str
            refine ⟨_, _, rfl, .inl ⟨_, .inr z, .inl (hid_some.mp hd).2, rfl, rfl⟩, fun _ => ?_, fun z => nomatch z⟩
            rw [← (dic_get rk).2, ← e2]
            exact q
          · obtain ⟨c', e1, rfl⟩ := Option.map_eq_some_iff.mp (show (inD x (.dict kvs)).map not = some c from ec)
            obtain ⟨z, rfl, e2⟩ := ind c' e1
            cases r1.str
            refine ⟨_, _, rfl, .inl ⟨_, .inr z, .inl (hid_some.mp hd).2, rfl, rfl⟩, (fun z => nomatch z), fun _ => ?_⟩
            rw [← (dic_get rk).2, ← e2]
            exact q
    have hu : X.A.units + 1 < cLine := hu_of A.good.room
    have go : wE X a σ H fun v H1 => wE X b σ H1 fun u H2 => ∃ (a : Addr) (r : Option V), u = .ref a ∧ DGet H2 a v r ∧ (o = .In → R r.isSome H2) ∧ (o = .NotIn → R (!r.isSome) H2) := by
      refine ha.use A ?_
      have hb1 := h.bind
      rw [ea] at hb1 ⊢
      intro H1 e1 v r1 o1
      have A1 := A.ext e1
      refine hb.use A1 ?_
      have hb2 := (hb1 H1 e1).bind
      rw [eb] at hb2 ⊢
      intro H2 e2 u r2 o2
      exact fin H2 s2 v u (A1.ext e2) (r1.ext e2.toKept) r2 (hb2 H2 e2)
    rcases ho with rfl | rfl
    · exact ⟨_, pc_din hu (wE_pe a) (wE_pe b), (go.mono fun v H1 q1 => q1.mono fun u H2 ⟨a', r, e, dg, q, _⟩ => ⟨a', r, e, dg, _, rfl, q rfl⟩)⟩
    · exact ⟨_, pc_dnotin hu (wE_pe a) (wE_pe b), (go.mono fun v H1 q1 => q1.mono fun u H2 ⟨a', r, e, dg, _, q⟩ => ⟨a', r, e, dg, _, rfl, q rfl⟩)⟩
  · refine ⟨_, pc_of (wOp_op _) (wE_pe a) (wE_pe b), ?_⟩
    refine ha.use A ?_
    have hb1 := h.bind
    cases ea : ma ρ s with
    | bad =>
      rw [ea] at hb1
      exact hb1
    | exc c p s' =>
      rw [ea] at hb1
      exact hb1
    | ok x s1 =>
      rw [ea] at hb1
      intro H1 e1 v r1 o1
      have A1 := A.ext e1
      refine hb.use A1 ?_
      have hb2 := (hb1 H1 e1).bind
      cases eb : mb ρ s1 with
      | bad =>
        rw [eb] at hb2
        exact hb2
      | exc c p s' =>
        rw [eb] at hb2
        exact hb2
      | ok y s2 =>
        rw [eb] at hb2
        intro H2 e2 u r2 o2
        have A2 := A1.ext e2
        obtain ⟨c, ec, q⟩ := (hb2 H2 e2).opt A2.box
        refine op_cmpp A2.good.room ec ?_ (r1.ext e2.toKept) r2 ⟨c, rfl, q⟩
        cases hd : isDict y with
        | false => exact .inl rfl
        | true =>
          obtain ⟨kvs, rfl⟩ := cut_dict hd
          refine .inr ⟨fun z => dd ⟨.inl z, x, s1, _, s2, kvs, ea, eb, rfl⟩, fun z => dd ⟨.inr z, x, s1, _, s2, kvs, ea, eb, rfl⟩⟩
end
end Pd
end
section
/-! Pd: expressions and tests, by rules, both readings at once. -/
namespace Pd
open PySem PySem.Spec PyProof.Rows L2

def plainE : Expr → Bool
  | .Set _ _ _ => false
  | .Starred _ _ => false
  | .Slice _ _ _ _ => false
  | _ => true
theorem plain_set {e : Expr} (h : plainE e = true) : notSet e = true := by cases e <;> first | rfl | cases h
theorem plain_star {e : Expr} {es : List Expr} {env : PySem.Env} (h : plainE e = true) : starEach (e :: es) env = (false, eval e env) :: starEach es env := by cases e <;> first | rfl | cases h
theorem plain_ix {e : Expr} (h : plainE e = true) : PlainIx e := fun o i => by cases e <;> first | rfl | cases h
theorem plain_nosl {e : Expr} (h : plainE e = true) : NoSl e := fun o i => by cases e <;> first | rfl | cases h
def plainL : List Expr → Bool
  | [] => true
  | e :: r => plainE e && plainL r
theorem plain_any {es : List Expr} {env : PySem.Env} {pos : Pos} : plainL es = true → (backTo pos (starEach es env)).any (·.1) = false := by
  induction es with
  | nil => exact fun _ => rfl
  | cons e r ih =>
    intro h
    have h : (plainE e && plainL r) = true := h
    rw [Bool.and_eq_true] at h
    rw [plain_star h.1]
    show (false || _) = false
    rw [Bool.false_or]
    exact ih h.2
def okN (x : Str) : Bool := !(x == ("__debug__" : Str)) && !(x == ("__classdict__" : Str)) && !decide (x = ("__name__" : Str))
theorem okN_d {x : Str} (h : okN x = true) : (x == ("__debug__" : Str)) = false := by
  unfold okN at h
  simp only [Bool.and_eq_true, Bool.not_eq_true'] at h
  exact h.1.1
theorem okN_c {x : Str} (h : okN x = true) : (x == ("__classdict__" : Str)) = false := by
  unfold okN at h
  simp only [Bool.and_eq_true, Bool.not_eq_true'] at h
  exact h.1.2
theorem okN_n {x : Str} (h : okN x = true) : x ≠ "__name__" := by
  unfold okN at h
  simp only [Bool.and_eq_true, Bool.not_eq_true', decide_eq_false_iff_not] at h
  exact h.2

section
variable (g : G) (Φ : Nat → Fn) (Cn : List D) (k : Nat) (sc : Sk)
/-- both readings of an expression -/
structure SB (e : Expr) (m : Env → M D) (own : Env → Bool) : Prop where
  pl : plainE e = true
  ex : SE g Φ Cn k sc e m own
  ts : ST g Φ Cn k sc e (fun ρ => .bind (m ρ) fun x => .ofOpt (truth x))
end
section
variable {g : G} {Φ : Nat → Fn} {Cn : List D} {k : Nat} {sc : Sk} {X : Cx} {W : WX} {β : Option Addr} {M0 : List Addr} {ms : List (Option Addr)} {H : Hp} {σ : L2.St} {ρ : Env} {s : Bx} {Q R : VK}
variable {a b c e : Expr} {ma mb mc : Env → M D} {oa ob oc : Env → Bool} {pos p2 : Pos}
theorem Good.glo (A : Good g Φ Cn k sc X W) {x : Str} (h : gloB sc.run x = true) : Gl X x := by
  show X.env.scope.names.lookup x = _
  rw [A.sc_]
  exact gloB_ok h
theorem Good.vis (A : Good g Φ Cn k sc X W) {x : Str} (h : visB sc.run x = true) : Vis X.env.scope x := by
  rw [A.sc_]
  exact visB_ok h
theorem ST.use {mt : Env → M Bool} {R : Bool → Hp → Prop} (h : ST g Φ Cn k sc a mt) (A : At g Φ Cn k sc X W β M0 ms H σ ρ s)
    (q : PostM X.K X.mg g W σ β (M0 ++ owns ms) H s (mt ρ s) (fun b H1 _ => R b H1)) : wT X a σ H R := h X W β M0 ms H σ ρ s R A q
theorem SL.use {es : List Expr} {ml : Env → M (List D)} {R : List V → Hp → Prop} (h : SL g Φ Cn k sc es ml) (A : At g Φ Cn k sc X W β M0 ms H σ ρ s)
    (q : PostM X.K X.mg g W σ β (M0 ++ owns ms) H s (ml ρ s) (fun ds H' s' => ∀ vs, RpA X.K (hid (M0 ++ owns ms) H') vs ds → R vs H')) : wA X es σ H R := h X W β M0 ms H σ ρ s R A q
theorem st_plain (h : SE g Φ Cn k sc e ma oa) (hp : ∀ (env : PySem.Env) (whole : Sem Value), isTrue e env whole = (do let v ← whole; standAt e.pos; holding [v] (truthy v))) : ST g Φ Cn k sc e (fun ρ => .bind (ma ρ) fun x => .ofOpt (truth x)) := by
  intro X W β M0 ms H σ ρ s Q A q
  refine wT.of (pt_truth (wE_pe e) (hp _)) ?_
  refine h.use A (q.bind.imp fun x H1 s1 e1 h1 v r1 o1 => ?_)
  obtain ⟨bb, eb, q1⟩ := h1.opt (A.ext e1).box
  exact ⟨bb, trB eb r1, q1⟩
theorem SB.of (pl : plainE e = true) (h : SE g Φ Cn k sc e ma oa) (hp : ∀ (env : PySem.Env) (whole : Sem Value), isTrue e env whole = (do let v ← whole; standAt e.pos; holding [v] (truthy v)) := by intro _ _; rfl) : SB g Φ Cn k sc e ma oa := ⟨pl, h, st_plain h hp⟩

/-! ### names, constants -/
theorem b_slot {i : Nat} {x : Str} (hN : g.N[i]? = some x) (hv : visB sc.run x = true) (ok : okN x = true) : SB g Φ Cn k sc (.Name x pos) (fun ρ => getSlot ρ i) (fun ρ => isOwn ρ (.slot i)) := by
  refine .of rfl ?_
  intro X W β M0 ms H σ ρ s Q A h
  refine wE.of (pe_var (i := i) (by rw [A.good.nm]; exact hN) (A.good.vis hv) (okN_d ok) (okN_c ok)) ?_
  show ∃ v, σ[i]? = some (some v) ∧ Q v H
  have h : PostE X.K X.mg g W σ β (M0 ++ owns ms) H s (isOwn ρ (.slot i)) (getSlot ρ i s) Q := h
  cases e : ρ[i]? with
  | none =>
    have eg : getSlot ρ i = Pd.M.bad := by
      unfold getSlot
      rw [e]
    rw [eg] at h
    exact h.elim
  | some sl =>
    have q := A.rel.at_ i sl e
    cases sl with
    | un =>
      have eg : getSlot ρ i = Pd.M.bad := by
        unfold getSlot
        rw [e]
      rw [eg] at h
      exact h.elim
    | box =>
      have eg : getSlot ρ i = Pd.M.bad := by
        unfold getSlot
        rw [e]
      rw [eg] at h
      exact h.elim
    | scr ns =>
      have eg : getSlot ρ i = Pd.M.bad := by
        unfold getSlot
        rw [e]
      rw [eg] at h
      exact h.elim
    | dat d =>
      have eg : getSlot ρ i = Pd.M.pure d := by
        unfold getSlot
        rw [e]
      rw [eg] at h
      obtain ⟨q1, v, q2, q3⟩ := q
      exact ⟨v, q2, h v H (Ext.refl A.box) (.rp q3) fun _ => q3⟩
    | own ds =>
      have eg : getSlot ρ i = Pd.M.pure (.list ds) := by
        unfold getSlot
        rw [e]
      rw [eg] at h
      obtain ⟨p, vs, q1, q2, q3, q4⟩ := q
      have hm : p ∈ M0 ++ owns ms := List.mem_append_right _ (mem_owns q1)
      refine ⟨_, q2, h _ H (Ext.refl A.box) (.own hm (A.rel.ap p (mem_owns q1)).2 q3 q4) fun z => ?_⟩
      have z : isOwn ρ (.slot i) = false := z
      unfold isOwn at z
      rw [e] at z
      cases z
theorem b_glob {j : Nat} {x : Str} (hc : g.cons[j]? = some x) (hg : gloB sc.run x = true) (ok : okN x = true) : SB g Φ Cn k sc (.Name x pos) (fun _ => .ofOpt Cn[j]?) (fun _ => false) := by
  refine .of rfl ?_
  intro X W β M0 ms H σ ρ s Q A h
  obtain ⟨d, u, v, e1, e2, r, hr⟩ := A.good.gf.con j x hc
  refine wE.of (pe_glob (A.good.glo hg) e2 r (okN_d ok)) ?_
  rw [e1] at h
  exact h v H (Ext.refl A.box) (.rp (hr _)) fun _ => hr _
theorem lit_ans {d : D} {v : V} (A : At g Φ Cn k sc X W β M0 ms H σ ρ s) (h : PostE X.K X.mg g W σ β (M0 ++ owns ms) H s false (Pd.M.pure d s) Q) (r : ∀ H, Rp X.K H v d) : Q v H := h v H (Ext.refl A.box) (.rp (r _)) fun _ => r _
theorem b_int {i : Int} {j : Nat} : SB g Φ Cn k sc (.Constant (.int i) j pos) (fun _ => .pure (.int i)) (fun _ => false) := by
  refine .of rfl ?_
  exact fun X W β M0 ms H σ ρ s Q A h => wE.of pe_int (lit_ans A h fun _ => .int i)
theorem b_bool {i : Bool} {j : Nat} : SB g Φ Cn k sc (.Constant (.bool i) j pos) (fun _ => .pure (.bool i)) (fun _ => false) := by
  refine .of rfl ?_
  exact fun X W β M0 ms H σ ρ s Q A h => wE.of pe_bl (lit_ans A h fun _ => .bl i)
theorem b_str {i : Str} {j : Nat} : SB g Φ Cn k sc (.Constant (.str i) j pos) (fun _ => .pure (.str i)) (fun _ => false) := by
  refine .of rfl ?_
  exact fun X W β M0 ms H σ ρ s Q A h => wE.of pe_str (lit_ans A h fun _ => .str i)
theorem b_none {j : Nat} : SB g Φ Cn k sc (.Constant .none j pos) (fun _ => .pure .none) (fun _ => false) := by
  refine .of rfl ?_
  exact fun X W β M0 ms H σ ρ s Q A h => wE.of pe_non (lit_ans A h fun _ => .non)

/-! ### operators -/
theorem b_bin {o : Operator} (ha : SB g Φ Cn k sc a ma oa) (hb : SB g Φ Cn k sc b mb ob) : SB g Φ Cn k sc (.BinOp a o b pos) (fun ρ => .bind (ma ρ) fun x => .bind (mb ρ) fun y => .ofOpt (binD o x y)) (fun _ => false) :=
  .of rfl (e_bin ha.ex hb.ex)
theorem b_neg (ha : SB g Φ Cn k sc a ma oa) : SB g Φ Cn k sc (.UnaryOp .USub a pos) (fun ρ => .bind (ma ρ) fun x => match x with
    | .int i => .pure (.int (-i))
    | _ => .bad) (fun _ => false) := .of rfl (e_neg ha.ex)

/-! ### answers that are truths -/
/-- an operator's answer, as a value and as a test -/
theorem b_truth {e : Expr} {m : Env → M Bool} (pl : plainE e = true) (hv : ∀ (X : Cx) (W : WX) (β : Option Addr) (M0 : List Addr) (ms : List (Option Addr)) (H : Hp) (σ : L2.St) (ρ : Env) (s : Bx) (R : Bool → Hp → Prop), At g Φ Cn k sc X W β M0 ms H σ ρ s →
    PostM X.K X.mg g W σ β (M0 ++ owns ms) H s (m ρ s) (fun b H' _ => R b H') → wE X e σ H (fun v H' => ∃ c, v = .bl c ∧ R c H') ∧ wT X e σ H R) :
    SB g Φ Cn k sc e (fun ρ => .bind (m ρ) fun c => .pure (.bool c)) (fun _ => false) := by
  refine ⟨pl, ?_, ?_⟩
  · intro X W β M0 ms H σ ρ s Q A h
    refine ((hv X W β M0 ms H σ ρ s (fun c H' => Q (.bl c) H') A ?_).1).mono fun v H' ⟨c, e, q⟩ => by rw [e]; exact q
    exact h.bind.imp fun c H1 s1 e1 h1 => (PostE.ans (own := false) h1).here (A.ext e1).box (.bl c)
  · intro X W β M0 ms H σ ρ s Q A h
    refine (hv X W β M0 ms H σ ρ s Q A ?_).2
    exact (PostM.assoc h).bind.imp fun c H1 s1 e1 h1 => by
      have h2 : PostM X.K X.mg g W σ β (M0 ++ owns ms) H1 s1 (Pd.M.ofOpt (truth (.bool c)) s1) (fun b H' _ => Q b H') := h1
      obtain ⟨d, ed, q⟩ := h2.opt (A.ext e1).box
      cases ed
      exact q
theorem b_cmp {o : CmpOp} (ha : SB g Φ Cn k sc a ma oa) (hb : SB g Φ Cn k sc b mb ob) :
    SB g Φ Cn k sc (.Compare a [o] [b] pos) (fun ρ => .bind (.bind (ma ρ) fun x => .bind (mb ρ) fun y => .ofOpt (cmpD o x y)) fun k => .pure (.bool k)) (fun _ => false) := by
  refine b_truth rfl ?_
  intro X W β M0 ms H σ ρ s R A h
  obtain ⟨t, pc, q⟩ := cmp_core ha.ex hb.ex A h
  have nb := noMarks (o := o) (plain_set hb.pl)
  exact ⟨wE.of (pe_cmp pc nb) q, wT.of (pt_cmp pc nb) q⟩
theorem opt_bind {α γ : Type} {a : α} {f : α → Pd.M γ} : Pd.M.bind (.ofOpt (some a)) f = f a := rfl
/-- a op1 b op2 c, no in -/
theorem b_chn {o1 o2 : CmpOp} (ha : SB g Φ Cn k sc a ma oa) (hb : SB g Φ Cn k sc b mb ob) (hc : SB g Φ Cn k sc c mc oc) (n1 : o1 ≠ .In ∧ o1 ≠ .NotIn) (n2 : o2 ≠ .In ∧ o2 ≠ .NotIn) :
    SB g Φ Cn k sc (.Compare a [o1, o2] [b, c] pos) (fun ρ => .bind (.bind (ma ρ) fun x => .bind (mb ρ) fun y => .bind (.ofOpt (cmpD o1 x y)) fun k =>
      if k then .bind (mc ρ) fun z => .ofOpt (cmpD o2 y z) else .pure false) fun k => .pure (.bool k)) (fun _ => false) := by
  refine b_truth rfl ?_
  intro X W β M0 ms H σ ρ s R A h
  have lm : lastMarks [o1, o2] [b, c] = false := noMarks (o := o2) (plain_set hc.pl)
  have go : tChain (wOp X (compareOp o1)) (wOp X (compareOp o2)) (wE X a) (wE X b) (wE X c) σ H (fun v H' => ∃ c, v = .bl c ∧ R c H') := by
    refine ha.ex.use A (h.bind.imp fun x H1 s1 e1 h1 v r1 _ => ?_)
    have A1 := A.ext e1
    refine hb.ex.use A1 (h1.bind.imp fun y H2 s2 e2 h2 u r2 _ => ?_)
    have A2 := A1.ext e2
    cases ec : cmpD o1 x y with
    | none =>
      rw [ec] at h2
      exact h2.elim
    | some c1 =>
      rw [ec] at h2
      refine op_cmpp A2.good.room ec (.inr n1) (r1.ext e2.toKept) r2 ⟨c1, rfl, ?_⟩
      cases c1 with
      | false => exact ⟨false, rfl, PostM.here h2 A2.box⟩
      | true =>
        have h2 : PostM X.K X.mg g W σ β (M0 ++ owns ms) H2 s2 (Pd.M.bind (mc ρ) (fun z => .ofOpt (cmpD o2 y z)) s2) (fun b H' _ => R b H') := h2
        refine hc.ex.use A2 (h2.bind.imp fun z H3 s3 e3 h3 t r3 _ => ?_)
        have A3 := A2.ext e3
        obtain ⟨c2, ec2, q⟩ := h3.opt A3.box
        exact op_cmpp A3.good.room ec2 (.inr n2) (r2.ext e3.toKept) r3 ⟨c2, rfl, q⟩
  exact ⟨wE.of (pe_chain (wOp_op _) (wOp_op _) (wE_pe a) (wE_pe b) (wE_pe c) lm) go, wT.of (pt_chain (wOp_op _) (wOp_op _) (wE_pe a) (wE_pe b) (wE_pe c) lm) go⟩
theorem b_not (ha : SB g Φ Cn k sc a ma oa) : SB g Φ Cn k sc (.UnaryOp .Not a pos) (fun ρ => .bind (.bind (trM (ma ρ)) fun k => .pure (!k)) fun k => .pure (.bool k)) (fun _ => false) := by
  refine b_truth rfl ?_
  intro X W β M0 ms H σ ρ s R A h
  constructor
  · refine wE.of (pe_notT (wE_pe a)) ?_
    refine ha.ex.use A ((PostM.assoc h).bind.imp fun x H1 s1 e1 h1 v r1 _ => ?_)
    cases et : truth x with
    | none =>
      rw [et] at h1
      exact h1.elim
    | some bb =>
      rw [et] at h1
      exact ⟨bb, trB et r1, _, rfl, PostM.here h1 (A.ext e1).box⟩
  · refine wT.of (pt_not (wT_pt a)) ?_
    exact ha.ts.use A (h.bind.imp fun x H1 s1 e1 h1 => h1.here (A.ext e1).box)
theorem isTrue_if {X : Cx} {c a b : Expr} {pos : Pos} {t ta tb : TT} (hc : PT X c t) (ha : PT X a ta) (hb : PT X b tb) : PT X (.IfExp c a b pos) (fun σ H Q => t σ H fun k H1 => if k = true then ta σ H1 Q else tb σ H1 Q) := by
  refine ⟨fun pins s σ H Q I h => ?_⟩
  have e : isTrue (.IfExp c a b pos) X.env (eval (.IfExp c a b pos) X.env) = (do if ← isTrue c X.env (eval c X.env) then isTrue a X.env (eval a X.env) else isTrue b X.env (eval b X.env)) := rfl
  rw [e]
  refine wpAny_bind (thn (hc.run pins s σ H _ I h) fun d s1 ⟨H1, I1, q1⟩ => ?_)
  cases d with
  | true => exact ha.run pins s1 σ H1 Q I1 q1
  | false => exact hb.run pins s1 σ H1 Q I1 q1
theorem b_ite (hc : SB g Φ Cn k sc c mc oc) (ha : SB g Φ Cn k sc a ma oa) (hb : SB g Φ Cn k sc b mb ob) : SB g Φ Cn k sc (.IfExp c a b pos) (fun ρ => .bind (trM (mc ρ)) fun k => if k then ma ρ else mb ρ) (fun ρ => oa ρ || ob ρ) := by
  refine ⟨rfl, ?_, ?_⟩
  · intro X W β M0 ms H σ ρ s Q A h
    refine wE.of (pe_ifExp (wT_pt c) (wE_pe a) (wE_pe b)) ?_
    refine hc.ts.use A (h.bind.imp fun x H1 s1 e1 h1 => ?_)
    have A1 := A.ext e1
    cases x with
    | true =>
      refine ha.ex X W β M0 ms H1 σ ρ s1 Q A1 ?_
      have h1 : PostE X.K X.mg g W σ β (M0 ++ owns ms) H1 s1 (oa ρ || ob ρ) (ma ρ s1) Q := h1
      revert h1
      cases ma ρ s1 with
      | bad => exact id
      | exc c p s' => exact id
      | ok d s' => exact fun h1 v H' e r o => h1 v H' e r fun z => o (by rw [Bool.or_eq_false_iff] at z; exact z.1)
    | false =>
      refine hb.ex X W β M0 ms H1 σ ρ s1 Q A1 ?_
      have h1 : PostE X.K X.mg g W σ β (M0 ++ owns ms) H1 s1 (oa ρ || ob ρ) (mb ρ s1) Q := h1
      revert h1
      cases mb ρ s1 with
      | bad => exact id
      | exc c p s' => exact id
      | ok d s' => exact fun h1 v H' e r o => h1 v H' e r fun z => o (by rw [Bool.or_eq_false_iff] at z; exact z.2)
  · intro X W β M0 ms H σ ρ s Q A h
    refine wT.of (isTrue_if (wT_pt c) (wT_pt a) (wT_pt b)) ?_
    refine hc.ts.use A ((PostM.assoc h).bind.imp fun x H1 s1 e1 h1 => ?_)
    cases x with
    | true => exact ha.ts.use (A.ext e1) h1
    | false => exact hb.ts.use (A.ext e1) h1

/-! ### and, or -/
section
variable (g : G) (Φ : Nat → Fn) (Cn : List D) (k : Nat) (sc : Sk)
structure SO (o : BoolOp) (es : List Expr) (m : Env → M D) : Prop where
  ex : ∀ pos, SE g Φ Cn k sc (.BoolOp o es pos) m (fun _ => false)
  ts : ∀ pos (X : Cx) (W : WX) (β : Option Addr) (M0 : List Addr) (ms : List (Option Addr)) (H : Hp) (σ : L2.St) (ρ : Env) (s : Bx) (Q : Bool → Hp → Prop), At g Φ Cn k sc X W β M0 ms H σ ρ s →
    PostM X.K X.mg g W σ β (M0 ++ owns ms) H s (Pd.M.bind (m ρ) (fun x => .ofOpt (truth x)) s) (fun b H' _ => Q b H') → wW X (.BoolOp o es pos) σ H Q
end
theorem b_bool_op {o : BoolOp} {es : List Expr} (h : SO g Φ Cn k sc o es ma) : SB g Φ Cn k sc (.BoolOp o es pos) ma (fun _ => false) :=
  ⟨rfl, h.ex pos, fun X W β M0 ms H σ ρ s Q A q => wT.of (wW_pw _).pt (h.ts pos X W β M0 ms H σ ρ s Q A q)⟩
theorem no_own {K : PySem.W.Frag} {mg : Str → Option Value} {M : List Addr} {r : Res D} {b : Bool} (hb : b = false) (h : PostE K mg g W σ β M H s false r Q) : PostE K mg g W σ β M H s b r Q := by
  rw [hb]
  exact h
theorem so_one {o : BoolOp} (ha : SB g Φ Cn k sc a ma oa) : SO g Φ Cn k sc o [a] (fun ρ => if oa ρ then .bad else ma ρ) := by
  refine ⟨fun pos X W β M0 ms H σ ρ s Q A h => ?_, fun pos X W β M0 ms H σ ρ s Q A h => ?_⟩
  · refine wE.of (pe_one (wE_pe a)) ?_
    have h : PostE X.K X.mg g W σ β (M0 ++ owns ms) H s false ((if oa ρ then Pd.M.bad else ma ρ) s) Q := h
    cases eo : oa ρ with
    | true =>
      rw [eo] at h
      exact h.elim
    | false =>
      rw [eo] at h
      exact ha.ex X W β M0 ms H σ ρ s Q A (no_own eo h)
  · have h : PostM X.K X.mg g W σ β (M0 ++ owns ms) H s (Pd.M.bind (if oa ρ then Pd.M.bad else ma ρ) (fun x => .ofOpt (truth x)) s) (fun b H' _ => Q b H') := h
    have h2 : wT X a σ H Q := by
      cases eo : oa ρ with
      | true =>
        rw [eo] at h
        exact h.elim
      | false =>
        rw [eo] at h
        exact ha.ts.use A h
    cases o with
    | And => exact wW.of (pw_and1 (wT_pt a)) h2
    | Or => exact wW.of (pw_or1 (wT_pt a)) h2
theorem so_and {rest : List Expr} {mr : Env → M D} (ha : SB g Φ Cn k sc a ma oa) (hr : SO g Φ Cn k sc .And (b :: rest) mr) :
    SO g Φ Cn k sc .And (a :: b :: rest) (fun ρ => if oa ρ then .bad else .bind (ma ρ) fun x => .bind (.ofOpt (truth x)) fun k => if k then mr ρ else .pure x) := by
  refine ⟨fun pos X W β M0 ms H σ ρ s Q A h => ?_, fun pos X W β M0 ms H σ ρ s Q A h => ?_⟩
  · refine wE.of (pe_andT (wE_pe a) (wE_pe _)) ?_
    have h : PostE X.K X.mg g W σ β (M0 ++ owns ms) H s false ((if oa ρ then Pd.M.bad else .bind (ma ρ) fun x => .bind (.ofOpt (truth x)) fun k => if k then mr ρ else .pure x) s) Q := h
    cases eo : oa ρ with
    | true =>
      rw [eo] at h
      exact h.elim
    | false =>
      rw [eo] at h
      refine ha.ex.use A (PostE.bind h |>.imp fun x H1 s1 e1 h1 v r1 r2 => ?_)
      cases et : truth x with
      | none =>
        rw [et] at h1
        exact h1.elim
      | some bb =>
        rw [et] at h1
        refine ⟨bb, trB et r1, ?_⟩
        cases bb with
        | true => exact hr.ex pos X W β M0 ms H1 σ ρ s1 Q (A.ext e1) h1
        | false => exact (PostE.ans (own := false) h1).here (A.ext e1).box (r2 eo)
  · refine wW.of (pw_and (wT_pt a) (wW_pw _)) ?_
    have h : PostM X.K X.mg g W σ β (M0 ++ owns ms) H s (Pd.M.bind (if oa ρ then Pd.M.bad else .bind (ma ρ) fun x => .bind (.ofOpt (truth x)) fun k => if k then mr ρ else .pure x) (fun x => .ofOpt (truth x)) s) (fun b H' _ => Q b H') := h
    cases eo : oa ρ with
    | true =>
      rw [eo] at h
      exact h.elim
    | false =>
      rw [eo] at h
      have e : Pd.M.bind (Pd.M.bind (ma ρ) fun x => .bind (.ofOpt (truth x)) fun k => if k then mr ρ else .pure x) (fun x => .ofOpt (truth x)) =
          Pd.M.bind (trM (ma ρ)) (fun k => if k then Pd.M.bind (mr ρ) (fun x => .ofOpt (truth x)) else .pure false) := by
        unfold trM
        rw [mb_assoc, mb_assoc]
        congr 1
        funext x
        cases et : truth x with
        | none => rfl
        | some bb =>
          cases bb with
          | true => rfl
          | false => exact congrArg Pd.M.ofOpt et
      have h : PostM X.K X.mg g W σ β (M0 ++ owns ms) H s (Pd.M.bind (Pd.M.bind (ma ρ) fun x => .bind (.ofOpt (truth x)) fun k => if k then mr ρ else .pure x) (fun x => .ofOpt (truth x)) s) (fun b H' _ => Q b H') := h
      rw [e] at h
      refine ha.ts.use A (h.bind.imp fun x H1 s1 e1 h1 => ?_)
      cases x with
      | true => exact hr.ts pos X W β M0 ms H1 σ ρ s1 Q (A.ext e1) h1
      | false => exact PostM.here h1 (A.ext e1).box
theorem so_or {rest : List Expr} {mr : Env → M D} (ha : SB g Φ Cn k sc a ma oa) (hr : SO g Φ Cn k sc .Or (b :: rest) mr) :
    SO g Φ Cn k sc .Or (a :: b :: rest) (fun ρ => if oa ρ then .bad else .bind (ma ρ) fun x => .bind (.ofOpt (truth x)) fun k => if k then .pure x else mr ρ) := by
  refine ⟨fun pos X W β M0 ms H σ ρ s Q A h => ?_, fun pos X W β M0 ms H σ ρ s Q A h => ?_⟩
  · refine wE.of (pe_orT (wE_pe a) (wE_pe _)) ?_
    have h : PostE X.K X.mg g W σ β (M0 ++ owns ms) H s false ((if oa ρ then Pd.M.bad else .bind (ma ρ) fun x => .bind (.ofOpt (truth x)) fun k => if k then .pure x else mr ρ) s) Q := h
    cases eo : oa ρ with
    | true =>
      rw [eo] at h
      exact h.elim
    | false =>
      rw [eo] at h
      refine ha.ex.use A (PostE.bind h |>.imp fun x H1 s1 e1 h1 v r1 r2 => ?_)
      cases et : truth x with
      | none =>
        rw [et] at h1
        exact h1.elim
      | some bb =>
        rw [et] at h1
        refine ⟨bb, trB et r1, ?_⟩
        cases bb with
        | false => exact hr.ex pos X W β M0 ms H1 σ ρ s1 Q (A.ext e1) h1
        | true => exact (PostE.ans (own := false) h1).here (A.ext e1).box (r2 eo)
  · refine wW.of (pw_or (wT_pt a) (wW_pw _)) ?_
    have h : PostM X.K X.mg g W σ β (M0 ++ owns ms) H s (Pd.M.bind (if oa ρ then Pd.M.bad else .bind (ma ρ) fun x => .bind (.ofOpt (truth x)) fun k => if k then .pure x else mr ρ) (fun x => .ofOpt (truth x)) s) (fun b H' _ => Q b H') := h
    cases eo : oa ρ with
    | true =>
      rw [eo] at h
      exact h.elim
    | false =>
      rw [eo] at h
      have e : Pd.M.bind (Pd.M.bind (ma ρ) fun x => .bind (.ofOpt (truth x)) fun k => if k then .pure x else mr ρ) (fun x => .ofOpt (truth x)) =
          Pd.M.bind (trM (ma ρ)) (fun k => if k then .pure true else Pd.M.bind (mr ρ) (fun x => .ofOpt (truth x))) := by
        unfold trM
        rw [mb_assoc, mb_assoc]
        congr 1
        funext x
        cases et : truth x with
        | none => rfl
        | some bb =>
          cases bb with
          | false => rfl
          | true => exact congrArg Pd.M.ofOpt et
      have h : PostM X.K X.mg g W σ β (M0 ++ owns ms) H s (Pd.M.bind (Pd.M.bind (ma ρ) fun x => .bind (.ofOpt (truth x)) fun k => if k then .pure x else mr ρ) (fun x => .ofOpt (truth x)) s) (fun b H' _ => Q b H') := h
      rw [e] at h
      refine ha.ts.use A (h.bind.imp fun x H1 s1 e1 h1 => ?_)
      cases x with
      | false => exact hr.ts pos X W β M0 ms H1 σ ρ s1 Q (A.ext e1) h1
      | true => exact PostM.here h1 (A.ext e1).box
end
end Pd
end
section
/-! Pd: displays, items, slices, calls, built-ins. -/
namespace Pd
open PySem PySem.Spec PyProof.Rows L2
section
variable {g : G} {Φ : Nat → Fn} {Cn : List D} {k : Nat} {sc : Sk} {X : Cx} {W : WX} {β : Option Addr} {M0 : List Addr} {ms : List (Option Addr)} {H : Hp} {σ : L2.St} {ρ : Env} {s : Bx} {Q R : VK}
variable {a b c e : Expr} {es : List Expr} {ma mb mc : Env → M D} {oa ob oc : Env → Bool} {ml : Env → M (List D)} {pos p2 p : Pos}
/-! ### displays -/
theorem l_nil : SL g Φ Cn k sc [] (fun _ => .pure []) := fun X W β M0 ms H σ ρ s Q A h =>
  wA.of pa_nil (PostM.here h A.box [] .nil)
theorem l_cons (ha : SB g Φ Cn k sc a ma oa) (hr : SL g Φ Cn k sc es ml) : SL g Φ Cn k sc (a :: es) (fun ρ => if oa ρ then .bad else .bind (ma ρ) fun x => .bind (ml ρ) fun xs => .pure (x :: xs)) := by
  intro X W β M0 ms H σ ρ s Q A h
  refine wA.of (pa_cons (wE_pe a) (wA_pa es) (plain_star ha.pl)) ?_
  have h : PostM X.K X.mg g W σ β (M0 ++ owns ms) H s ((if oa ρ then Pd.M.bad else .bind (ma ρ) fun x => .bind (ml ρ) fun xs => .pure (x :: xs)) s) (fun ds H' s' => ∀ vs, RpA X.K (hid (M0 ++ owns ms) H') vs ds → Q vs H') := h
  cases eo : oa ρ with
  | true =>
    rw [eo] at h
    exact h.elim
  | false =>
    rw [eo] at h
    refine ha.ex.use A (PostM.bind h |>.imp fun x H1 s1 e1 h1 v r1 r2 => ?_)
    have A1 := A.ext e1
    refine hr.use A1 (h1.bind.imp fun xs H2 s2 e2 h2 vs r3 => ?_)
    exact PostM.here h2 (A1.ext e2).box _ (.cons ((r2 eo).same e2.same) r3)
theorem RpA.app {K : PySem.W.Frag} {H : Hp} : ∀ {vs us : List V} {ds es : List D}, RpA K H vs ds → RpA K H us es → RpA K H (vs ++ us) (ds ++ es)
  | _, _, _, _, .nil, r => r
  | _, _, _, _, .cons h t, r => .cons h (t.app r)
theorem l_star (ha : SB g Φ Cn k sc a ma oa) (hr : SL g Φ Cn k sc es ml) : SL g Φ Cn k sc (.Starred a p :: es) (fun ρ => .bind (ma ρ) fun x => .bind (.ofOpt (seqOf x)) fun ys => .bind (ml ρ) fun xs => .pure (ys ++ xs)) := by
  intro X W β M0 ms H σ ρ s Q A h
  refine wA.of (StX.pa_star (wE_pe a) (wA_pa es)) ?_
  refine ha.ex.use A (h.bind.imp fun x H1 s1 e1 h1 v r1 r2 => ?_)
  have A1 := A.ext e1
  obtain ⟨ys, ey, h2⟩ := h1.bind.opt A1.box
  obtain ⟨q, vs, rfl, g1, g2⟩ := r1.seq ey
  refine ⟨q, vs, rfl, (g1.elim (fun z => .inr (.inl (.inl z))) .inl), ?_⟩
  refine hr.use A1 (PostM.bind h2 |>.imp fun xs H2 s2 e2 h3 us r3 => ?_)
  exact PostM.here h3 (A1.ext e2).box _ (RpA.app (g2.same e2.same) r3)
theorem b_tup {j : Nat} (h : SL g Φ Cn k sc es ml) : SB g Φ Cn k sc (.Tuple es j pos) (fun ρ => .bind (ml ρ) ckTup) (fun _ => false) := by
  refine .of rfl ?_
  intro X W β M0 ms H σ ρ s Q A q
  refine wE.of (pe_tup (wA_pa es)) ?_
  refine h.use A (q.bind.imp fun ds H1 s1 e1 h1 vs r => ?_)
  have A1 := A.ext e1
  unfold ckTup at h1
  by_cases hl : ds.length ≤ lim
  · rw [if_pos hl] at h1
    exact ⟨lt_lim r hl, fun u hu => PostE.ans (own := false) h1 _ _ (Ext.new A1.box A1.liveA hu) (new_tup A1.liveA hu r)⟩
  · rw [if_neg hl] at h1
    exact h1.elim
theorem b_lst (h : SL g Φ Cn k sc es ml) : SB g Φ Cn k sc (.List es pos) (fun ρ => .bind (ml ρ) ckLim) (fun _ => false) := by
  refine .of rfl ?_
  intro X W β M0 ms H σ ρ s Q A q
  refine wE.of (pe_lst (wA_pa es)) ?_
  refine h.use A (q.bind.imp fun ds H1 s1 e1 h1 vs r => ?_)
  have A1 := A.ext e1
  unfold ckLim at h1
  by_cases hl : ds.length ≤ lim
  · rw [if_pos hl] at h1
    exact ⟨lt_lim r hl, fun u hu => PostE.ans (own := false) h1 _ _ (Ext.new A1.box A1.liveA hu) (new_list A1.liveA hu r)⟩
  · rw [if_neg hl] at h1
    exact h1.elim

/-! ### items, slices -/
theorem b_idx (ha : SB g Φ Cn k sc a ma oa) (hb : SB g Φ Cn k sc b mb ob) : SB g Φ Cn k sc (.Subscript a b pos) (fun ρ => .bind (ma ρ) fun x => .bind (mb ρ) fun y => .ofOpt (idxD x y)) (fun _ => false) := by
  refine .of rfl ?_
  intro X W β M0 ms H σ ρ s Q A h
  by_cases dd : ∃ kvs s1, ma ρ s = .ok (.dict kvs) s1
  · obtain ⟨kvs, s1, ea⟩ := dd
    refine wE.of (pe_dget (hu_of A.good.room) (wE_pe a) (wE_pe b) (plain_nosl hb.pl)) ?_
    have h1 := h.bind
    refine ha.ex.use A ?_
    rw [ea] at h1 ⊢
    intro H1 e1 v r1 _
    have A1 := A.ext e1
    refine hb.ex.use A1 ((h1 H1 e1).bind.imp fun y H2 s2 e2 h2 u r2 _ => ?_)
    have A2 := A1.ext e2
    obtain ⟨d, ed, q⟩ := h2.opt
    cases y with
    | str z =>
      cases r2.str
      have r3 := r1.ext e2.toKept
      cases r3 with
      | rp r3 =>
        cases r3 with
        | dic hd rk =>
          obtain ⟨w, e3, r4⟩ := (dic_get (u := z) rk).1 d ed
          exact ⟨_, w, rfl, .inl ⟨_, .inr z, .inl (hid_some.mp hd).2, rfl, e3.symm⟩, q.here A2.box r4⟩
    | _ => cases ed
  · refine wE.of (pe_ix wIx_ix (wE_pe a) (wE_pe b) (plain_ix hb.pl)) ?_
    have h1 := h.bind
    refine ha.ex.use A ?_
    cases ea : ma ρ s with
    | bad =>
      rw [ea] at h1
      exact h1
    | exc c p s' =>
      rw [ea] at h1
      exact h1
    | ok x s1 =>
      rw [ea] at h1
      intro H1 e1 v r1 _
      have A1 := A.ext e1
      refine hb.ex.use A1 ((h1 H1 e1).bind.imp fun y H2 s2 e2 h2 u r2 _ => ?_)
      have A2 := A1.ext e2
      obtain ⟨d, ed, q⟩ := h2.opt
      refine op_item A2.box ed ?_ (r1.ext e2.toKept) r2 q
      cases hd : isDict x with
      | false => rfl
      | true =>
        obtain ⟨kvs, rfl⟩ := cut_dict hd
        exact (dd ⟨kvs, s1, ea⟩).elim
/-- a slice's end -/
inductive SP_ (g : G) (Φ : Nat → Fn) (Cn : List D) (k : Nat) (sc : Sk) : Option Expr → (Env → M (Option Int)) → Prop
  | no : SP_ g Φ Cn k sc none (fun _ => .pure none)
  | so {e : Expr} {m : Env → M D} {o : Env → Bool} : SB g Φ Cn k sc e m o → SP_ g Φ Cn k sc (some e) (fun ρ => .bind (m ρ) fun x => match x with
    | .int i => .pure (some i)
    | _ => .bad)
def wO (X : Cx) (e : Option Expr) : TO := fun σ H Q => ∃ t, PO X e t ∧ t σ H Q
theorem wO_po {X : Cx} (e : Option Expr) : PO X e (wO X e) := ⟨fun pins s σ H Q I ⟨t, h, q⟩ => h.run pins s σ H Q I q⟩
theorem SP_.use {e : Option Expr} {m : Env → M (Option Int)} {R : Option Int → Hp → Prop} (h : SP_ g Φ Cn k sc e m) (A : At g Φ Cn k sc X W β M0 ms H σ ρ s)
    (q : PostM X.K X.mg g W σ β (M0 ++ owns ms) H s (m ρ s) (fun o H1 s1 => R o H1)) : wO X e σ H R := by
  cases h with
  | no => exact ⟨_, po_none, PostM.here q A.box⟩
  | so h =>
    refine ⟨_, po_some (wE_pe _), ?_⟩
    refine h.ex.use A (q.bind.imp fun x H1 s1 e1 h1 v r _ => ?_)
    cases x with
    | int j =>
      cases r.int
      exact ⟨j, rfl, PostM.here h1 (A.ext e1).box⟩
    | _ => exact h1.elim
theorem b_slc {lo hi : Option Expr} {mlo mhi : Env → M (Option Int)} (ha : SB g Φ Cn k sc a ma oa) (hl : SP_ g Φ Cn k sc lo mlo) (hh : SP_ g Φ Cn k sc hi mhi) :
    SB g Φ Cn k sc (.Subscript a (.Slice lo hi none p2) pos) (fun ρ => .bind (ma ρ) fun x => .bind (mlo ρ) fun l => .bind (mhi ρ) fun h => .ofOpt (slcD x l h)) (fun _ => false) := by
  refine .of rfl ?_
  intro X W β M0 ms H σ ρ s Q A h
  refine wE.of (pe_slice wSl_sl (wE_pe a) (wO_po lo) (wO_po hi)) ?_
  refine ha.ex.use A (h.bind.imp fun x H1 s1 e1 h1 v r1 _ => ?_)
  have A1 := A.ext e1
  refine hl.use A1 ((PostE.bind h1).imp fun l H2 s2 e2 h2 => ?_)
  have A2 := A1.ext e2
  refine hh.use A2 ((PostE.bind h2).imp fun l2 H3 s3 e3 h3 => ?_)
  have A3 := A2.ext e3
  obtain ⟨d, ed, q⟩ := h3.opt
  exact op_slice A3.box A3.liveA ed ((r1.ext e2.toKept).ext e3.toKept) q
theorem b_rev {j : Nat} {p1 p3 p4 : Pos} (ha : SB g Φ Cn k sc a ma oa) : SB g Φ Cn k sc (.Subscript a (.Slice none none (some (.UnaryOp .USub (.Constant (.int 1) j p1) p3)) p4) pos) (fun ρ => .bind (ma ρ) fun x => .ofOpt (revD x)) (fun _ => false) := by
  refine .of rfl ?_
  intro X W β M0 ms H σ ρ s Q A h
  refine wE.of (pe_revL (wE_pe a)) ?_
  refine ha.ex.use A (h.bind.imp fun x H1 s1 e1 h1 v r1 _ => ?_)
  have A1 := A.ext e1
  obtain ⟨d, ed, q⟩ := h1.opt
  cases x with
  | list xs =>
    cases ed
    obtain ⟨q', vs, rfl, g1, g2⟩ := r1.list
    exact ⟨q', vs, rfl, .inl (.inl g1), fun u hu => q _ _ (Ext.new A1.box A1.liveA hu) (new_list A1.liveA hu g2.rev)⟩
  | _ => cases ed

theorem rp_ints {K : PySem.W.Frag} {H : Hp} : ∀ ns : List Int, RpA K H (ns.map V.int) (ns.map PyData.int)
  | [] => .nil
  | n :: r => .cons (.int n) (rp_ints r)
/-- the box is read -/
theorem b_bget {i j : Nat} {x : Str} {px pj : Pos} {jj : Nat} (hj : j < 3) (hN : g.N[i]? = some x) (hv : visB sc.run x = true) (ok : okN x = true) :
    SB g Φ Cn k sc (.Subscript (.Name x px) (.Constant (.int j) jj pj) pos) (fun (ρ : Env) => match ρ[i]? with
    | some Slot.box => getBx j
    | _ => .bad) (fun _ => false) := by
  refine .of rfl ?_
  intro X W β M0 ms H σ ρ s Q A h
  have h : PostE X.K X.mg g W σ β (M0 ++ owns ms) H s false ((match ρ[i]? with
    | some Slot.box => getBx j
    | _ => .bad) s) Q := h
  refine wE.of (pe_ix wIx_ix (pe_var (i := i) (by rw [A.good.nm]; exact hN) (A.good.vis hv) (okN_d ok) (okN_c ok)) (pe_int (i := j)) (plain_ix rfl)) ?_
  show ∃ v, σ[i]? = some (some v) ∧ wIx X v (.int j) H Q
  cases e : ρ[i]? with
  | none =>
    rw [e] at h
    exact h.elim
  | some sl =>
    have q := A.rel.at_ i sl e
    rw [e] at h
    cases sl with
    | box =>
      obtain ⟨q1, b, rfl, q2⟩ := q
      have hb : H b = some (.lst [.int s.a, .int s.b, .int s.c]) := A.box
      refine ⟨_, q2, ?_⟩
      match j, hj, h with
      | 0, _, h => exact ⟨_, ix_list, b, _, 0, .int s.a, rfl, rfl, .inl (.inl hb), rfl, (PostE.ans (own := false) h).here A.box (.int _)⟩
      | 1, _, h => exact ⟨_, ix_list, b, _, 1, .int s.b, rfl, rfl, .inl (.inl hb), rfl, (PostE.ans (own := false) h).here A.box (.int _)⟩
      | 2, _, h => exact ⟨_, ix_list, b, _, 2, .int s.c, rfl, rfl, .inl (.inl hb), rfl, (PostE.ans (own := false) h).here A.box (.int _)⟩
    | _ => exact h.elim
/-- a slice of the script -/
theorem b_sslc {i : Nat} {x : Str} {px : Pos} {lo hi : Option Expr} {mlo mhi : Env → M (Option Int)} (hN : g.N[i]? = some x) (hv : visB sc.run x = true) (ok : okN x = true) (hl : SP_ g Φ Cn k sc lo mlo) (hh : SP_ g Φ Cn k sc hi mhi) :
    SB g Φ Cn k sc (.Subscript (.Name x px) (.Slice lo hi none p2) pos) (fun (ρ : Env) => match ρ[i]? with
    | some (Slot.scr ns) => Pd.M.bind (mlo ρ) fun l => Pd.M.bind (mhi ρ) fun h => Pd.M.pure (PyData.list (cutL (ns.map PyData.int) l h))
    | _ => .bad) (fun _ => false) := by
  refine .of rfl ?_
  intro X W β M0 ms H σ ρ s Q A h
  have h : PostE X.K X.mg g W σ β (M0 ++ owns ms) H s false ((match ρ[i]? with
    | some (Slot.scr ns) => Pd.M.bind (mlo ρ) fun l => Pd.M.bind (mhi ρ) fun h => Pd.M.pure (PyData.list (cutL (ns.map PyData.int) l h))
    | _ => .bad) s) Q := h
  refine wE.of (pe_slice sl_list (pe_var (i := i) (by rw [A.good.nm]; exact hN) (A.good.vis hv) (okN_d ok) (okN_c ok)) (wO_po lo) (wO_po hi)) ?_
  show ∃ v, σ[i]? = some (some v) ∧ _
  cases e : ρ[i]? with
  | none =>
    rw [e] at h
    exact h.elim
  | some sl =>
    have q := A.rel.at_ i sl e
    rw [e] at h
    cases sl with
    | scr ns =>
      obtain ⟨q1, v, q2, q3⟩ := q
      refine ⟨_, q2, ?_⟩
      refine hl.use A ((PostE.bind h).imp fun l H2 s2 e2 h2 => ?_)
      have A2 := A.ext e2
      refine hh.use A2 ((PostE.bind h2).imp fun l2 H3 s3 e3 h3 => ?_)
      have A3 := A2.ext e3
      obtain ⟨a, rfl, r⟩ := (q3.same e2.same).same e3.same
      have r' : SqL X.K H3 a (ns.map V.int) := by
        obtain ⟨_, e4, r4⟩ := (show ScrV X.K (hid (M0 ++ owns ms) H3) (.ref a) ns from ⟨a, rfl, r⟩).same hid_full
        cases e4
        exact r4
      exact ⟨a, _, rfl, r', fun u hu => PostE.ans (own := false) h3 _ _ (Ext.new A3.box A3.liveA hu) (new_list A3.liveA hu (cut_rp (rp_ints ns) l l2))⟩
    | _ => exact h.elim

/-! ### built-ins -/
theorem Good.none (A : Good g Φ Cn k sc X W) {x : Str} (h : x ∈ g.free) : X.mg x = none := A.gf.free x h
/-- f(a), f a built-in function or type by a rule of ours -/
theorem b_call1 {x : Str} {f : Value} {m : D → M D} (hf : x ∈ g.free) (hg : gloB sc.run x = true) (ok : okN x = true) (hv : bootBuiltins x = some f) (hk : (∃ id, f = .builtin id) ∨ ∃ T, f = .type T) (ha : SB g Φ Cn k sc a ma oa)
    (rule : ∀ (X : Cx) (W : WX) (β : Option Addr) (M0 : List Addr) (ms : List (Option Addr)) (H : Hp) (σ : L2.St) (ρ : Env) (s : Bx) (Q : VK) (d : D) (v : V), At g Φ Cn k sc X W β M0 ms H σ ρ s → Rw X.K β (M0 ++ owns ms) H v d →
      PostE X.K X.mg g W σ β (M0 ++ owns ms) H s false (m d s) Q → wCl X f [v] H Q) :
    SB g Φ Cn k sc (.Call (.Name x p) [a] [] pos) (fun ρ => .bind (ma ρ) m) (fun _ => false) := by
  refine .of rfl ?_
  intro X W β M0 ms H σ ρ s Q A h
  have go : tCB (wCl X f) (tCons (wE X a) tNil) σ H Q := by
    refine ha.ex.use A ((PostE.bind h).imp fun d H1 s1 e1 h1 v r _ => ?_)
    exact rule X W β M0 ms H1 σ ρ s1 Q d v (A.ext e1) r h1
  have st : starEach [a] X.env = (false, eval a X.env) :: starEach [] X.env := plain_star ha.pl
  rcases hk with ⟨id, rfl⟩ | ⟨T, rfl⟩
  · exact wE.of (pe_callB (wCl_call _) (A.good.glo hg) (A.good.none hf) hv (pa_cons (wE_pe a) pa_nil st) (okN_n ok) (okN_d ok) st rfl) go
  · exact wE.of (pe_callTy (wCl_call _) (A.good.glo hg) (A.good.none hf) hv (pa_cons (wE_pe a) pa_nil st) (okN_n ok) (okN_d ok) st rfl) go
def biN : Bi → Option (Str × Value)
  | .len => some ("len", .builtin "len")
  | .abs => some ("abs", .builtin "abs")
  | .int => some ("int", .type "int")
  | .list => some ("list", .type "list")
  | .tuple => some ("tuple", .type "tuple")
  | .all => some ("all", .builtin "all")
  | .any => some ("any", .builtin "any")
  | .sorted => some ("sorted", .builtin "sorted")
  | _ => none
theorem b_bi {o : Bi} {x : Str} {f : Value} (e : biN o = some (x, f)) (hf : x ∈ g.free) (hg : gloB sc.run x = true) (ha : SB g Φ Cn k sc a ma oa) :
    SB g Φ Cn k sc (.Call (.Name x p) [a] [] pos) (fun ρ => .bind (ma ρ) fun x => .ofOpt (biD o x)) (fun _ => false) := by
  have ok : okN x = true := by cases o <;> cases e <;> rfl
  have hv : bootBuiltins x = some f := by cases o <;> cases e <;> rfl
  have hk : (∃ id, f = .builtin id) ∨ ∃ T, f = .type T := by cases o <;> cases e <;> first | exact .inl ⟨_, rfl⟩ | exact .inr ⟨_, rfl⟩
  refine b_call1 hf hg ok hv hk ha fun X W β M0 ms H σ ρ s Q d v A r h => ?_
  obtain ⟨d2, ed, q⟩ := h.opt
  by_cases hs : o = .sorted
  · subst hs
    cases e
    exact op_sorted A.good.room A.box A.liveA ed r q
  · refine op_bi A.good.room A.good.calm (o := o) ?_ A.box A.liveA ed r q
    cases o <;> cases e <;> first | (simp; done) | exact absurd rfl hs
end
end Pd
end
section
/-! Pd: calls of the module's functions; isinstance; sets sorted and counted. -/
namespace Pd
open PySem PySem.Spec PyProof.Rows L2
/-! ### arguments -/
/-- L: the lists of one's own among them -/
inductive ArgR (K : PySem.W.Frag) (β : Option Addr) (M : List Addr) (H : Hp) : List Addr → List V → List Val → Prop
  | nil : ArgR K β M H [] [] []
  | dat {v : V} {d : D} {L : List Addr} {vs : List V} {as : List Val} : Rp K (hid M H) v d → ArgR K β M H L vs as → ArgR K β M H L (v :: vs) (.dat d :: as)
  | own {p : Addr} {xs : List V} {ds : List D} {L : List Addr} {vs : List V} {as : List Val} : β ≠ some p → H p = some (.lst xs) → RpA K (hid M H) xs ds → ArgR K β M H L vs as → ArgR K β M H (p :: L) (.ref p :: vs) (.dat (.list ds) :: as)
  | box {b : Addr} {L : List Addr} {vs : List V} {as : List Val} : β = some b → ArgR K β M H L vs as → ArgR K β M H L (.ref b :: vs) (.box :: as)
  | scr {v : V} {ns : List Int} {L : List Addr} {vs : List V} {as : List Val} : ScrV K (hid M H) v ns → ArgR K β M H L vs as → ArgR K β M H L (v :: vs) (.scr ns :: as)
section
variable {K : PySem.W.Frag} {β : Option Addr} {M N : List Addr} {H H' : Hp} {L : List Addr} {vs : List V} {as : List Val}
theorem ArgR.own_lst (r : ArgR K β M H L vs as) : ∀ p ∈ L, β ≠ some p ∧ ∃ xs, H p = some (.lst xs) := by
  induction r with
  | nil => exact fun p hp => nomatch hp
  | dat h r ih => exact ih
  | own h1 h2 h3 r ih =>
    intro p hp
    rcases List.mem_cons.mp hp with rfl | hp
    · exact ⟨h1, _, h2⟩
    · exact ih p hp
  | box h r ih => exact ih
  | scr h r ih => exact ih
theorem ArgR.see (r : ArgR K β M H L vs as) (hs : ∀ a ∈ N, a ∈ M) (hn : ∀ p ∈ L, p ∉ N) : RvA K β (hid N H) vs as := by
  induction r with
  | nil => exact .nil
  | dat h r ih => exact .dat (h.same (hid_le hs)) (ih hn)
  | own h1 h2 h3 r ih => exact .dat (.lst (hid_some.mpr ⟨hn _ List.mem_cons_self, h2⟩) (h3.same (hid_le hs))) (ih fun p hp => hn p (List.mem_cons_of_mem _ hp))
  | box h r ih => exact .box h (ih hn)
  | scr h r ih => exact .scr (h.same (hid_le hs)) (ih hn)
theorem RvA.length {H : Hp} (r : RvA K β H vs as) : vs.length = as.length := by
  induction r with
  | nil => rfl
  | dat h r ih => exact congrArg (· + 1) ih
  | box h r ih => exact congrArg (· + 1) ih
  | scr h r ih => exact congrArg (· + 1) ih
mutual
theorem noL_rp {H H' : Hp} (hs : ∀ a xs, SqT K H a xs → SqT K H' a xs) : ∀ {v : V} {d : D}, noL d = true → Rp K H v d → Rp K H' v d
  | _, _, _, .non => .non
  | _, _, _, .bl b => .bl b
  | _, _, _, .int i => .int i
  | _, _, _, .str x => .str x
  | _, _, n, .lst h r => by cases n
  | _, _, n, .tup h r => .tup (hs _ _ h) (noL_rpA hs n r)
  | _, _, n, .dic h r => by cases n
theorem noL_rpA {H H' : Hp} (hs : ∀ a xs, SqT K H a xs → SqT K H' a xs) : ∀ {vs : List V} {ds : List D}, noL.noLs ds = true → RpA K H vs ds → RpA K H' vs ds
  | _, _, _, .nil => .nil
  | _, _, n, .cons h r => by
    have n : (noL _ && noL.noLs _) = true := n
    rw [Bool.and_eq_true] at n
    exact .cons (noL_rp hs n.1 h) (noL_rpA hs n.2 r)
end
end
section
variable (g : G) (Φ : Nat → Fn) (Cn : List D) (k : Nat) (sc : Sk)
/-- arguments -/
def SA (es : List Expr) (m : Env → M (List Val)) (own : Env → Bool) : Prop := ∀ (X : Cx) (W : WX) (β : Option Addr) (M0 : List Addr) (ms : List (Option Addr)) (H : Hp) (σ : L2.St) (ρ : Env) (s : Bx) (Q : List V → Hp → Prop), At g Φ Cn k sc X W β M0 ms H σ ρ s →
  PostM X.K X.mg g W σ β (M0 ++ owns ms) H s (m ρ s) (fun as H' s' => ∀ L vs, ArgR X.K β (M0 ++ owns ms) H' L vs as → (own ρ = false → L = []) → Q vs H') → wA X es σ H Q
end
section
variable {g : G} {Φ : Nat → Fn} {Cn : List D} {k : Nat} {sc : Sk} {X : Cx} {W : WX} {β : Option Addr} {M0 : List Addr} {ms : List (Option Addr)} {H : Hp} {σ : L2.St} {ρ : Env} {s : Bx} {Q R : VK}
variable {a b c e : Expr} {es : List Expr} {ma mb mc : Env → M D} {oa ob oc os : Env → Bool} {ml : Env → M (List D)} {mas : Env → M (List Val)} {pos p2 p : Pos}
theorem a_nil : SA g Φ Cn k sc [] (fun _ => .pure []) (fun _ => false) := fun X W β M0 ms H σ ρ s Q A h =>
  wA.of pa_nil (PostM.here h A.box [] [] .nil fun _ => rfl)
theorem a_cons (ha : SB g Φ Cn k sc a ma oa) (hr : SA g Φ Cn k sc es mas os) : SA g Φ Cn k sc (a :: es) (fun ρ => .bind (ma ρ) fun x => .bind (mas ρ) fun xs => .pure (.dat x :: xs)) (fun ρ => oa ρ || os ρ) := by
  intro X W β M0 ms H σ ρ s Q A h
  refine wA.of (pa_cons (wE_pe a) (wA_pa es) (plain_star ha.pl)) ?_
  refine ha.ex.use A (PostM.bind h |>.imp fun x H1 s1 e1 h1 v r1 r2 => ?_)
  have A1 := A.ext e1
  refine hr X W β M0 ms H1 σ ρ s1 _ A1 (h1.bind.imp fun xs H2 s2 e2 h2 L vs r3 n3 => ?_)
  have q := PostM.here h2 (A1.ext e2).box
  cases eo : oa ρ with
  | false => exact q L _ (.dat ((r2 eo).same e2.same) r3) (fun z => n3 (by have z : (oa ρ || os ρ) = false := z; rw [eo, Bool.false_or] at z; exact z))
  | true =>
    have r4 := r1.ext e2.toKept
    cases r4 with
    | rp r4 => exact q L _ (.dat r4 r3) (fun z => by have z : (oa ρ || os ρ) = false := z; rw [eo, Bool.true_or] at z; cases z)
    | own g1 g2 g3 g4 => exact q _ _ (.own g2 g3 g4 r3) (fun z => by have z : (oa ρ || os ρ) = false := z; rw [eo, Bool.true_or] at z; cases z)
theorem a_box {i : Nat} {x : Str} {pos : Pos} (hN : g.N[i]? = some x) (hv : visB sc.run x = true) (ok : okN x = true) (hr : SA g Φ Cn k sc es mas os) :
    SA g Φ Cn k sc (.Name x pos :: es) (fun (ρ : Env) => match ρ[i]? with
    | some Slot.box => Pd.M.bind (mas ρ) fun xs => .pure (.box :: xs)
    | _ => .bad) os := by
  intro X W β M0 ms H σ ρ s Q A h
  have h : PostM X.K X.mg g W σ β (M0 ++ owns ms) H s ((match ρ[i]? with
    | some Slot.box => Pd.M.bind (mas ρ) fun xs => Pd.M.pure (Val.box :: xs)
    | _ => .bad) s) (fun as H' s' => ∀ L vs, ArgR X.K β (M0 ++ owns ms) H' L vs as → (os ρ = false → L = []) → Q vs H') := h
  refine wA.of (pa_cons (pe_var (i := i) (by rw [A.good.nm]; exact hN) (A.good.vis hv) (okN_d ok) (okN_c ok)) (wA_pa es) (plain_star rfl)) ?_
  show ∃ v, σ[i]? = some (some v) ∧ _
  cases e : ρ[i]? with
  | none =>
    rw [e] at h
    exact h.elim
  | some sl =>
    have q := A.rel.at_ i sl e
    rw [e] at h
    cases sl with
    | un => exact h.elim
    | dat d => exact h.elim
    | own d => exact h.elim
    | scr d => exact h.elim
    | box =>
      obtain ⟨q1, b, rfl, q2⟩ := q
      refine ⟨_, q2, ?_⟩
      refine hr X W (some b) M0 ms H σ ρ s _ A (PostM.bind h |>.imp fun xs H1 s1 e1 h1 L vs r n => ?_)
      exact PostM.here h1 (A.ext e1).box L _ (.box rfl r) n

theorem a_scr {i : Nat} {x : Str} {pos : Pos} (hN : g.N[i]? = some x) (hv : visB sc.run x = true) (ok : okN x = true) (hr : SA g Φ Cn k sc es mas os) :
    SA g Φ Cn k sc (.Name x pos :: es) (fun (ρ : Env) => match ρ[i]? with
    | some (Slot.scr ns) => Pd.M.bind (mas ρ) fun xs => Pd.M.pure (Val.scr ns :: xs)
    | _ => .bad) os := by
  intro X W β M0 ms H σ ρ s Q A h
  have h : PostM X.K X.mg g W σ β (M0 ++ owns ms) H s ((match ρ[i]? with
    | some (Slot.scr ns) => Pd.M.bind (mas ρ) fun xs => Pd.M.pure (Val.scr ns :: xs)
    | _ => .bad) s) (fun as H' s' => ∀ L vs, ArgR X.K β (M0 ++ owns ms) H' L vs as → (os ρ = false → L = []) → Q vs H') := h
  refine wA.of (pa_cons (pe_var (i := i) (by rw [A.good.nm]; exact hN) (A.good.vis hv) (okN_d ok) (okN_c ok)) (wA_pa es) (plain_star rfl)) ?_
  show ∃ v, σ[i]? = some (some v) ∧ _
  cases e : ρ[i]? with
  | none =>
    rw [e] at h
    exact h.elim
  | some sl =>
    have q := A.rel.at_ i sl e
    rw [e] at h
    cases sl with
    | scr ns =>
      obtain ⟨q1, v, q2, q3⟩ := q
      refine ⟨_, q2, ?_⟩
      refine hr X W β M0 ms H σ ρ s _ A (PostM.bind h |>.imp fun xs H1 s1 e1 h1 L vs r n => ?_)
      exact PostM.here h1 (A.ext e1).box L _ (.scr (q3.same e1.same) r) n
    | _ => exact h.elim

theorem box_ne0 {D : Addr} (b : BoxAt β H s) (hD : H D = none) : β ≠ some D := fun z => by
  rw [z] at b
  have b : H D = some (.lst [.int s.a, .int s.b, .int s.c]) := b
  rw [hD] at b
  cases b
/-! ### a call -/
theorem pe_call0SD {CX : CXT} {k : Nat} {f : Addr} {fd : FuncData} {ps : List Str} {sp : Sp} {dvs : List V} {ds : List Value} {E : L2.St → XK} {x : Str} {p pos : Pos} (F : FnOk X.prog X.w X.K X.mg X.base CX k f fd ps sp) (hr : Room k X.A) (hg : Gl X x) (hm : X.mg x = some (.ref f)) (hk : PySem.W.keepIn X.K (.ref f) = true)
    (hb : Binds X.K fd ps ds) (hd : Vals dvs ds) (hx : ∀ σ, PassesAt CX X σ (E σ)) (hdb : (x == ("__debug__" : Str)) = false) : PE X (.Call (.Name x p) [] [] pos) (tCallSD sp dvs E tNil) := by
  refine ⟨fun pins s σ H Q I h => ?_⟩
  refine wpAny_Call_Name_kw (ld_glob I hg hm ?_ hdb)
  exact PySem.W.callWith_K0 I.kIn hk (run_fnSD (us := []) F hr hb hd (hx σ) I .nil h)
/-- what the callee's promise gives here -/
theorem call_sp {F : Fn} {n : Nat} {own : Bool} {L : List Addr} {vs : List V} {as : List Val} (A : At g Φ Cn k sc X W β M0 ms H σ ρ s) (hlen : as.length ≠ n → F as s = .bad)
    (r : ArgR X.K β (M0 ++ owns ms) H L vs as) (ho : own = false → L = [])
    (h : PostE X.K X.mg g W σ β (M0 ++ owns ms) H s false ((if own then noLk (F as) else F as) s) Q) :
    spF X.K X.mg g.errs F n vs H Q (fun cls dd H' => W cls dd σ H') := by
  have hb : as.length = n := by
    by_cases hl : as.length = n
    · exact hl
    · exfalso
      have e := hlen hl
      cases own with
      | false =>
        have h : PostE X.K X.mg g W σ β (M0 ++ owns ms) H s false (F as s) Q := h
        rw [e] at h
        exact h
      | true =>
        have h : PostE X.K X.mg g W σ β (M0 ++ owns ms) H s false (noLk (F as) s) Q := h
        unfold noLk at h
        rw [e] at h
        exact h
  let N := (M0 ++ owns ms).filter fun a => decide (a ∉ L)
  have hNs : ∀ a ∈ N, a ∈ M0 ++ owns ms := fun a ha => (List.mem_filter.mp ha).1
  have hNl : ∀ p ∈ L, p ∉ N := fun p hp z => by
    have := (List.mem_filter.mp z).2
    rw [decide_eq_true_eq] at this
    exact this hp
  have hNo : ∀ x ∈ M0 ++ owns ms, x ∉ N → x ∈ L := fun x hx hn => by
    apply Classical.byContradiction
    intro hl
    exact hn (List.mem_filter.mpr ⟨hx, by rw [decide_eq_true_eq]; exact hl⟩)
  have hNq : ∀ x ∈ M0 ++ owns ms, x ∉ N → ∃ o, H x = some o := fun x hx hn => A.liveA x hx
  have rv := r.see hNs hNl
  refine ⟨rv.length.trans hb, β, N, s, as, A.box, fun a ha => A.liveA a (hNs a ha), fun b e => List.mem_filter.mpr ⟨List.mem_append_left _ (A.bin b e), ?_⟩, rv, ?_⟩
  · rw [decide_eq_true_eq]
    exact fun z => (r.own_lst b z).1 e
  have err : ∀ {c : Nat} {p : Option D} {cls : Value} {dd : Option Addr} {H' : Hp} {s' : Bx}, own = false → Ext β N H s H' s' → ErrR X.K X.mg ⟨[], [], [], g.errs, [], none, [], 0⟩ N c p cls dd H' → ErrR X.K X.mg g (M0 ++ owns ms) c p cls dd H' := fun {c p cls dd H' s'} eo x er => by
    have e0 := ho eo
    have eN : N = M0 ++ owns ms := by
      show List.filter _ _ = _
      rw [e0]
      exact List.filter_eq_self.mpr fun a _ => by simp
    rw [eN] at er
    exact er
  cases eo : own with
  | false =>
    have e0 := ho eo
    have eN : N = M0 ++ owns ms := by
      show List.filter _ _ = _
      rw [e0]
      exact List.filter_eq_self.mpr fun a _ => by simp
    rw [eo] at h
    have h : PostE X.K X.mg g W σ β (M0 ++ owns ms) H s false (F as s) Q := h
    rw [eN]
    revert h
    cases F as s with
    | bad => exact id
    | ok d s' => exact fun h v H' x r => h v H' x (.rp r) fun _ => r
    | exc c p s' => exact fun h cls dd H' x er => h cls dd H' x er
  | true =>
    rw [eo] at h
    have h : PostE X.K X.mg g W σ β (M0 ++ owns ms) H s false (noLk (F as) s) Q := h
    unfold noLk at h
    have look : ∀ {v : V} {d : D} {H' : Hp} {s' : Bx}, Ext β N H s H' s' → noL d = true → Rp X.K (hid N H') v d → Rp X.K (hid (M0 ++ owns ms) H') v d := fun {v d H' s'} x hn r1 => by
      refine noL_rp (fun a xs z => ?_) hn r1
      have ne : ∀ u, hid N H' a = some u → (∀ ys, u ≠ .lst ys) → hid (M0 ++ owns ms) H' a = some u := fun u e nl => by
        obtain ⟨e1, e2⟩ := hid_some.mp e
        refine hid_some.mpr ⟨fun hm => ?_, e2⟩
        obtain ⟨_, ys, e3⟩ := r.own_lst a (hNo a hm e1)
        have e4 := (hid_some.mp (x.same a _ (hid_some.mpr ⟨e1, e3⟩))).2
        rw [e2] at e4
        exact nl ys (Option.some.inj e4)
      rcases z with (z | ⟨o, z⟩) | z
      · exact .inl (.inl (ne _ z fun ys q => nomatch q))
      · exact .inl (.inr ⟨o, ne _ z fun ys q => nomatch q⟩)
      · exact .inr z
    cases ef : F as s with
    | bad =>
      rw [ef] at h
      exact h
    | ok d s' =>
      rw [ef] at h
      intro v H' x r1
      have x2 := x.more hNs hNq
      cases hn : noL d with
      | true =>
        dsimp only at h
        rw [hn] at h
        exact h v H' x2 (.rp (look x hn r1)) fun _ => look x hn r1
      | false =>
        dsimp only at h
        rw [hn] at h
        exact h.elim
    | exc c p s' =>
      rw [ef] at h
      intro cls dd H' x er
      dsimp only at h
      cases hp : (p.map noL).getD true with
      | false =>
        rw [hp] at h
        exact h.elim
      | true =>
        rw [hp] at h
        refine h cls dd H' (x.more hNs hNq) ?_
        obtain ⟨ei, q1, q2, q3⟩ := er
        refine ⟨ei, q1, q2, ?_⟩
        revert q3
        cases ei.fld with
        | none => cases p <;> exact id
        | some f =>
          cases p with
          | none => exact id
          | some d => exact fun ⟨a, v, g1, g2, g3⟩ => ⟨a, v, g1, g2, look x hp g3⟩
theorem Good.binds {f : Nat} {fi : FI} (A : Good g Φ Cn k sc X W) (h : g.fns[f]? = some fi) : ∃ q fd, X.mg fi.nm = some (.ref q) ∧ PySem.W.keepIn X.K (.ref q) = true ∧ Binds X.K fd fi.ps [] ∧ FnOk X.prog X.w X.K X.mg X.base (L2.CX X.prog X.w) k q fd fi.ps (spF X.K X.mg g.errs (Φ f) fi.ps.length) := by
  obtain ⟨q, fd, h1, h2, h3, h4, _⟩ := A.gf.fn f fi h
  exact ⟨q, fd, h1, h2, h3, h4⟩
theorem b_call {f : Nat} {fi : FI} (hf : g.fns[f]? = some fi) (hg : gloB sc.run fi.nm = true) (ok : okN fi.nm = true) (pl : plainL (a :: es) = true) (ha : SA g Φ Cn k sc (a :: es) mas os) :
    SB g Φ Cn k sc (.Call (.Name fi.nm p) (a :: es) [] pos) (fun ρ => .bind (mas ρ) fun vs => if os ρ then noLk (Φ f vs) else Φ f vs) (fun _ => false) := by
  refine .of rfl ?_
  intro X W β M0 ms H σ ρ s Q A h
  obtain ⟨q, fd, e1, e2, e3, e4⟩ := A.good.binds hf
  have pl : (plainE a && plainL es) = true := pl
  rw [Bool.and_eq_true] at pl
  refine wE.of (pe_callSD (E := WE W) e4 A.good.room (A.good.glo hg) e1 e2 e3 .nil (fun σ => passAt A.good.tk σ) (wA_pa _) (okN_d ok) (plain_star pl.1) (plain_any pl.2)) ?_
  refine ha X W β M0 ms H σ ρ s _ A ((PostE.bind h).imp fun as H1 s1 x1 h1 L vs r n => ?_)
  rw [List.append_nil]
  exact call_sp (A.ext x1) (fun z => A.good.gf.lenF f fi as s1 hf z) r n h1
theorem b_call0 {f : Nat} {fi : FI} (hf : g.fns[f]? = some fi) (hg : gloB sc.run fi.nm = true) (ok : okN fi.nm = true) :
    SB g Φ Cn k sc (.Call (.Name fi.nm p) [] [] pos) (fun ρ => .bind (.pure []) fun vs => if false then noLk (Φ f vs) else Φ f vs) (fun _ => false) := by
  refine .of rfl ?_
  intro X W β M0 ms H σ ρ s Q A h
  obtain ⟨q, fd, e1, e2, e3, e4⟩ := A.good.binds hf
  refine wE.of (pe_call0SD (E := WE W) e4 A.good.room (A.good.glo hg) e1 e2 e3 .nil (fun σ => passAt A.good.tk σ) (okN_d ok)) ?_
  exact call_sp (own := false) (as := []) A (fun z => A.good.gf.lenF f fi [] s hf z) .nil (fun _ => rfl) h

/-- f(h(a, b)), h the maker of boxes -/
theorem b_bcall {f : Nat} {fi hi : FI} {p3 pos3 : Pos} (hf : g.fns[f]? = some fi) (hg : gloB sc.run fi.nm = true) (ok : okN fi.nm = true) (hb : g.bx = some hi) (hg2 : gloB sc.run hi.nm = true) (ok2 : okN hi.nm = true) (ha : SB g Φ Cn k sc a ma oa) (hc : SB g Φ Cn k sc b mb ob) :
    SB g Φ Cn k sc (.Call (.Name fi.nm p) [.Call (.Name hi.nm p3) [a, b] [] pos3] [] pos) (fun ρ => if oa ρ || ob ρ then .bad else .bind (ma ρ) fun u => .bind (mb ρ) fun v => inBox (Φ f) g.bk u v) (fun _ => false) := by
  refine .of rfl ?_
  intro X W β M0 ms H σ ρ s Q A h
  have h : PostE X.K X.mg g W σ β (M0 ++ owns ms) H s false ((if oa ρ || ob ρ then Pd.M.bad else .bind (ma ρ) fun u => .bind (mb ρ) fun v => inBox (Φ f) g.bk u v) s) Q := h
  cases eo : oa ρ with
  | true =>
    rw [eo] at h
    exact h.elim
  | false =>
  cases eo2 : ob ρ with
  | true =>
    rw [eo, eo2] at h
    exact h.elim
  | false =>
  rw [eo, eo2] at h
  obtain ⟨q, fd, e1, e2, e3, e4⟩ := A.good.binds hf
  obtain ⟨q5, fd5, e5, e6, e7, e8⟩ := A.good.gf.bxs hi hb
  have st2 : starEach [b] X.env = (false, eval b X.env) :: starEach [] X.env := plain_star hc.pl
  have st : starEach [a, b] X.env = (false, eval a X.env) :: starEach [b] X.env := plain_star ha.pl
  have p1 := pe_callSD (E := WE W) (p := p3) (pos := pos3) e8 A.good.room (A.good.glo hg2) e5 e6 e7 .nil (fun σ => passAt A.good.tk σ) (pa_cons (wE_pe a) (pa_cons (wE_pe b) pa_nil st2) st) (okN_d ok2) st (by rw [st2]; rfl)
  refine wE.of (pe_callSD (E := WE W) e4 A.good.room (A.good.glo hg) e1 e2 e3 .nil (fun σ => passAt A.good.tk σ) (pa_cons p1 pa_nil rfl) (okN_d ok) rfl rfl) ?_
  refine ha.ex.use A ((PostE.bind (m := ma ρ) h).imp fun u H1 s1 x1 h1 v r1 r1s => ?_)
  have A1 := A.ext x1
  refine hc.ex.use A1 ((PostE.bind h1).imp fun u2 H2 s2 x2 h2 v2 r2 r2s => ?_)
  have A2 := A1.ext x2
  unfold inBox at h2
  cases eb : boxF g.bk u u2 with
  | none =>
    rw [eb] at h2
    exact h2.elim
  | some bs =>
    rw [eb] at h2
    dsimp only at h2
    refine ⟨rfl, β, M0 ++ owns ms, s2, bs, v, v2, u, u2, rfl, A2.box, A2.liveA, fun c e => List.mem_append_left _ (A2.bin c e), (r1s eo).same x2.same, r2s eo2, eb, fun w H3 x3 hw hw3 => ?_⟩
    have A3 := A2.ext x3
    have nw : w ∉ M0 ++ owns ms := fun z => by
      obtain ⟨o, e⟩ := A2.liveA w z
      rw [hw] at e
      cases e
    have nb := box_ne0 A2.box hw
    have lv : Live (w :: (M0 ++ owns ms)) H3 := fun c hc => by
      rcases List.mem_cons.mp hc with rfl | hc
      · exact ⟨_, hw3⟩
      · exact A3.liveA c hc
    have down : ∀ {H4 : Hp} {s4 : Bx}, Ext (some w) (w :: (M0 ++ owns ms)) H3 bs H4 s4 → Ext β (M0 ++ owns ms) H2 s2 H4 s2 := fun {H4 s4} x4 => by
      refine ⟨⟨fun c o z => ?_, fun c hc hn => ?_⟩, ?_⟩
      · have z3 := x3.same c o z
        obtain ⟨z1, z2⟩ := hid_some.mp z3
        have ne : ¬ (c = w) := fun e => by
          have := (hid_some.mp z).2
          rw [e, hw] at this
          cases this
        have z4 := x4.same c o (hid_some.mpr ⟨fun m => (List.mem_cons.mp m).elim ne z1, z2⟩)
        exact hid_some.mpr ⟨z1, (hid_some.mp z4).2⟩
      · have ne : ¬ (c = w) := fun e => nw (e ▸ hc)
        rw [x4.keep c (List.mem_cons_of_mem _ hc) fun e => ne (Option.some.inj e).symm]
        exact x3.keep c hc hn
      · have bx3 := x3.box
        cases β with
        | none => trivial
        | some c =>
          have mc : c ∈ M0 ++ owns ms := List.mem_append_left _ (A2.bin c rfl)
          have ne : ¬ (c = w) := fun e => nw (e ▸ mc)
          have e5 := x4.keep c (List.mem_cons_of_mem _ mc) fun e => ne (Option.some.inj e).symm
          show H4 c = _
          rw [e5]
          exact bx3
    have lenf : fi.ps.length = 1 ∨ Φ f [.box] bs = .bad := by
      by_cases hl : fi.ps.length = 1
      · exact .inl hl
      · exact .inr (A.good.gf.lenF f fi [.box] bs hf fun z => hl z.symm)
    rcases lenf with hl | hl
    · refine ⟨by rw [hl]; rfl, some w, w :: (M0 ++ owns ms), bs, [.box], hw3, lv, (fun c e => by cases e; exact List.mem_cons_self), .box rfl .nil, ?_⟩
      revert h2
      cases Φ f [.box] bs with
      | bad => exact id
      | ok d s4 => exact fun h2 z H4 x4 r4 => h2 z H4 (down x4) (.rp (r4.same (hid_le fun c hc => List.mem_cons_of_mem _ hc))) fun _ => r4.same (hid_le fun c hc => List.mem_cons_of_mem _ hc)
      | exc c pp s4 =>
        intro h2 cls dd H4 x4 er
        refine h2 cls dd H4 (down x4) ?_
        obtain ⟨ei, q1, q2, q3⟩ := er
        refine ⟨ei, q1, q2, ?_⟩
        revert q3
        cases ei.fld with
        | none => cases pp <;> exact id
        | some fl =>
          cases pp with
          | none => exact id
          | some d => exact fun ⟨a, v, g1, g2, g3⟩ => ⟨a, v, g1, g2, g3.same (hid_le fun c hc => List.mem_cons_of_mem _ hc)⟩
    · rw [hl] at h2
      exact h2.elim

/-! ### isinstance -/
def kindS : D → String
  | .none => "NoneType"
  | .bool _ => "bool"
  | .int _ => "int"
  | .str _ => "str"
  | .list _ => "list"
  | .tuple _ => "tuple"
  | .dict _ => "dict"
def tyS : Ty → String
  | .int => "int"
  | .bool => "bool"
  | .str => "str"
  | .list => "list"
  | .tuple => "tuple"
def knownD : D → Bool
  | .none => true
  | .bool _ => true
  | .int _ => true
  | .str _ => true
  | .list _ => true
  | .tuple _ => true
  | .dict _ => true
theorem kit_tab : ∀ t : Ty, kitB "NoneType" (tyS t) = some false ∧ kitB "bool" (tyS t) = some (tyOf (.bool true) t) ∧ kitB "int" (tyS t) = some (tyOf (.int 0) t) ∧ kitB "str" (tyS t) = some (tyOf (.str "") t) ∧
    kitB "list" (tyS t) = some (tyOf (.list []) t) ∧ kitB "tuple" (tyS t) = some (tyOf (.tuple []) t) ∧ kitB "dict" (tyS t) = some false := by
  intro t
  cases t <;> decide +kernel
theorem kit_d {d : D} (h : knownD d = true) (t : Ty) : kitB (kindS d) (tyS t) = some (tyOf d t) := by
  obtain ⟨h1, h2, h3, h4, h5, h6, h7⟩ := kit_tab t
  cases d <;> first | (cases h; done) | skip
  · rw [show kindS .none = "NoneType" from rfl, h1]; cases t <;> rfl
  · rw [show kindS (.bool _) = "bool" from rfl, h2]; cases t <;> rfl
  · rw [show kindS (.int _) = "int" from rfl, h3]; cases t <;> rfl
  · rw [show kindS (.str _) = "str" from rfl, h4]; cases t <;> rfl
  · rw [show kindS (.list _) = "list" from rfl, h5]; cases t <;> rfl
  · rw [show kindS (.tuple _) = "tuple" from rfl, h6]; cases t <;> rfl
  · rw [show kindS (.dict _) = "dict" from rfl, h7]; cases t <;> rfl
theorem rw_known {K : PySem.W.Frag} {M : List Addr} {v : V} {d : D} (r : Rw K β M H v d) : knownD d = true ∧ TyX K H v (.type (kindS d)) := by
  cases r with
  | own h1 h2 h3 h4 => exact ⟨rfl, .base (.lst h3)⟩
  | rp r =>
    cases r with
    | non => exact ⟨rfl, .base .non⟩
    | bl b => exact ⟨rfl, .base (.bl b)⟩
    | int b => exact ⟨rfl, .base (.int b)⟩
    | str b => exact ⟨rfl, .base (.str b)⟩
    | lst h r => exact ⟨rfl, .base (.lst (hid_some.mp h).2)⟩
    | tup h r =>
      rcases h with (h | ⟨o, h⟩) | ⟨o, its, n, h1, h2, _⟩
      · exact ⟨rfl, .base (.tup (hid_some.mp h).2)⟩
      · exact ⟨rfl, .fTuple (hid_some.mp h).2⟩
      · exact ⟨rfl, .kTuple h1 h2⟩
    | dic h r => exact ⟨rfl, .base (.dK (hid_some.mp h).2)⟩
def tyN : Ty → Str
  | .int => "int"
  | .bool => "bool"
  | .str => "str"
  | .list => "list"
  | .tuple => "tuple"
theorem tyN_boot (t : Ty) : bootBuiltins (tyN t) = some (.type (tyS t)) := by cases t <;> rfl
theorem tyN_ok (t : Ty) : okN (tyN t) = true := by cases t <;> rfl
theorem b_isi {t : Ty} {p3 : Pos} (f1 : ("isinstance" : Str) ∈ g.free) (f2 : gloB sc.run "isinstance" = true) (h1 : tyN t ∈ g.free) (h2 : gloB sc.run (tyN t) = true) (ha : SB g Φ Cn k sc a ma oa) :
    SB g Φ Cn k sc (.Call (.Name "isinstance" p) [a, .Name (tyN t) p3] [] pos) (fun ρ => .bind (ma ρ) fun x => .pure (.bool ([t].any (tyOf x)))) (fun _ => false) := by
  refine .of rfl ?_
  intro X W β M0 ms H σ ρ s Q A h
  have pt : PE X (.Name (tyN t) p3) (tC (.ty (tyS t))) := pe_bltn (A.good.glo h2) (A.good.none h1) (tyN_boot t) rfl (okN_n (tyN_ok t)) (okN_d (tyN_ok t))
  have st : starEach [a, .Name (tyN t) p3] X.env = (false, eval a X.env) :: starEach [.Name (tyN t) p3] X.env := plain_star ha.pl
  refine wE.of (pe_callB call_isi (A.good.glo f2) (A.good.none f1) rfl (pa_cons (wE_pe a) (pa_cons pt pa_nil rfl) st) (by decide) (by decide) st rfl) ?_
  refine ha.ex.use A ((PostE.bind h).imp fun d H1 s1 e1 h1' v r _ => ?_)
  have q := (PostE.ans (own := false) h1').here (A.ext e1).box (.bl _)
  obtain ⟨kd, ty⟩ := rw_known r
  refine ⟨v, _, _, _, [t].any (tyOf d), rfl, .ty _, ty, kit_ty (by rw [kit_d kd t]; simp), q⟩

/-! ### sorted(set(a)), len(set(a)) -/
theorem seq_keys {xs : List D} (h : (allStr xs || allInt xs) = true) : ∃ (ks : List Key) (b : Bool), xs = ks.map keyD ∧ ∀ k ∈ ks, kin b k := by
  obtain ⟨ks, e⟩ := keysOf_all h
  have e := keysOf_map e
  obtain ⟨b, hb⟩ := kin_of h e
  exact ⟨ks, b, e, hb⟩
theorem b_sset {p3 pos3 : Pos} (f1 : ("sorted" : Str) ∈ g.free) (g1 : gloB sc.run "sorted" = true) (f2 : ("set" : Str) ∈ g.free) (g2 : gloB sc.run "set" = true) (ha : SB g Φ Cn k sc a ma oa) :
    SB g Φ Cn k sc (.Call (.Name "sorted" p) [.Call (.Name "set" p3) [a] [] pos3] [] pos) (fun ρ => .bind (ma ρ) fun x => .ofOpt (ssetD x)) (fun _ => false) := by
  refine .of rfl ?_
  intro X W β M0 ms H σ ρ s Q A h
  have st : starEach [a] X.env = (false, eval a X.env) :: starEach [] X.env := plain_star ha.pl
  have p1 := pe_callTy (p := p3) (pos := pos3) (wCl_call (.type "set")) (A.good.glo g2) (A.good.none f2) rfl (pa_cons (wE_pe a) pa_nil st) (by decide) (by decide) st rfl
  refine wE.of (pe_callB (wCl_call (.builtin "sorted")) (A.good.glo g1) (A.good.none f1) rfl (pa_cons p1 pa_nil rfl) (by decide) (by decide) rfl rfl) ?_
  refine ha.ex.use A ((PostE.bind h).imp fun d H1 s1 e1 h1 v r _ => ?_)
  have A1 := A.ext e1
  obtain ⟨d2, ed, q⟩ := h1.opt
  unfold ssetD at ed
  obtain ⟨xs, e2, ed⟩ := Option.bind_eq_some_iff.mp ed
  split at ed
  · rename_i hc
    cases ed
    rw [Bool.and_eq_true, Bool.and_eq_true, decide_eq_true_eq] at hc
    obtain ⟨⟨c1, c2⟩, c3⟩ := hc
    obtain ⟨ks, b, ek, hb⟩ := seq_keys c1
    refine op_set A1.good.room A1.good.calm e2 ek c2 r fun u L hu nd hm => ?_
    have x1 : Ext β (M0 ++ owns ms) H1 s1 (upd H1 u (setO X.w u L)) s1 := Ext.new A1.box A1.liveA hu
    have A2 := A1.ext x1
    have hb2 : ∀ k ∈ L, kin b k := fun k hk => hb k ((hm k).mp hk)
    have ok : ∀ k ∈ L, shp (keyD k) = true := fun k hk => List.all_eq_true.mp c3 _ (by rw [ek]; exact List.mem_map.mpr ⟨k, (hm k).mp hk, rfl⟩)
    refine op_sortedSet (M := M0 ++ owns ms) A2.good.room A2.good.calm upd_same hb2 ok fun w zs hw rz => ?_
    have pk : isortD (L.map keyD) = isortD (dedup xs) := by
      obtain ⟨L2, e3, nd2, hm2⟩ := dedup_keys ks hb
      rw [ek, e3]
      refine isort_keys hb2 ?_
      exact (List.perm_ext_iff_of_nodup nd nd2).mpr fun k => by rw [hm k, hm2 k]
    rw [pk] at rz
    exact q _ _ (x1.trans (Ext.new A2.box A2.liveA hw)) (new_list A2.liveA hw rz)
  · cases ed
theorem b_lset {p3 pos3 : Pos} (f1 : ("len" : Str) ∈ g.free) (g1 : gloB sc.run "len" = true) (f2 : ("set" : Str) ∈ g.free) (g2 : gloB sc.run "set" = true) (ha : SB g Φ Cn k sc a ma oa) :
    SB g Φ Cn k sc (.Call (.Name "len" p) [.Call (.Name "set" p3) [a] [] pos3] [] pos) (fun ρ => .bind (ma ρ) fun x => .ofOpt (lsetD x)) (fun _ => false) := by
  refine .of rfl ?_
  intro X W β M0 ms H σ ρ s Q A h
  have st : starEach [a] X.env = (false, eval a X.env) :: starEach [] X.env := plain_star ha.pl
  have p1 := pe_callTy (p := p3) (pos := pos3) (wCl_call (.type "set")) (A.good.glo g2) (A.good.none f2) rfl (pa_cons (wE_pe a) pa_nil st) (by decide) (by decide) st rfl
  refine wE.of (pe_callB (wCl_call (.builtin "len")) (A.good.glo g1) (A.good.none f1) rfl (pa_cons p1 pa_nil rfl) (by decide) (by decide) rfl rfl) ?_
  refine ha.ex.use A ((PostE.bind h).imp fun d H1 s1 e1 h1 v r _ => ?_)
  have A1 := A.ext e1
  obtain ⟨d2, ed, q⟩ := h1.opt
  unfold lsetD at ed
  obtain ⟨xs, e2, ed⟩ := Option.bind_eq_some_iff.mp ed
  split at ed
  · rename_i hc
    cases ed
    rw [Bool.and_eq_true, decide_eq_true_eq] at hc
    obtain ⟨c1, c2⟩ := hc
    obtain ⟨ks, b, ek, hb⟩ := seq_keys c1
    refine op_set A1.good.room A1.good.calm e2 ek c2 r fun u L hu nd hm => ?_
    have x1 : Ext β (M0 ++ owns ms) H1 s1 (upd H1 u (setO X.w u L)) s1 := Ext.new A1.box A1.liveA hu
    refine op_lenSet upd_same ?_
    have pk : L.length = (dedup xs).length := by
      obtain ⟨L2, e3, nd2, hm2⟩ := dedup_keys ks hb
      rw [ek, e3, List.length_map]
      exact ((List.perm_ext_iff_of_nodup nd nd2).mpr fun k => by rw [hm k, hm2 k]).length_eq
    rw [pk]
    exact q _ _ x1 (.int _)
  · cases ed
theorem b_max {b : Expr} (f1 : ("max" : Str) ∈ g.free) (g1 : gloB sc.run "max" = true) (ha : SB g Φ Cn k sc a ma oa) (hb : SB g Φ Cn k sc b mb ob) :
    SB g Φ Cn k sc (.Call (.Name "max" p) [a, b] [] pos) (fun ρ => .bind (ma ρ) fun u => .bind (mb ρ) fun v => maxD u v) (fun _ => false) := by
  refine .of rfl ?_
  intro X W β M0 ms H σ ρ s Q A h
  have st : starEach [a, b] X.env = (false, eval a X.env) :: starEach [b] X.env := plain_star ha.pl
  have st2 : starEach [b] X.env = (false, eval b X.env) :: starEach [] X.env := plain_star hb.pl
  refine wE.of (pe_callB (call_max2 A.good.calm) (A.good.glo g1) (A.good.none f1) rfl (pa_cons (wE_pe a) (pa_cons (wE_pe b) pa_nil st2) st) (by decide) (by decide) st (by rw [st2]; rfl)) ?_
  refine ha.ex.use A ((PostE.bind h).imp fun x H1 s1 e1 h1 v r1 _ => ?_)
  have A1 := A.ext e1
  refine hb.ex.use A1 ((PostE.bind h1).imp fun y H2 s2 e2 h2 u r2 _ => ?_)
  unfold maxD at h2
  split at h2
  · cases r1.int
    cases r2.int
    exact ⟨_, _, rfl, (PostE.ans (own := false) h2).here (A1.ext e2).box (.int _)⟩
  · exact h2.elim
theorem b_min {b : Expr} (f1 : ("min" : Str) ∈ g.free) (g1 : gloB sc.run "min" = true) (ha : SB g Φ Cn k sc a ma oa) (hb : SB g Φ Cn k sc b mb ob) :
    SB g Φ Cn k sc (.Call (.Name "min" p) [a, b] [] pos) (fun ρ => .bind (ma ρ) fun u => .bind (mb ρ) fun v => minD u v) (fun _ => false) := by
  refine .of rfl ?_
  intro X W β M0 ms H σ ρ s Q A h
  have st : starEach [a, b] X.env = (false, eval a X.env) :: starEach [b] X.env := plain_star ha.pl
  have st2 : starEach [b] X.env = (false, eval b X.env) :: starEach [] X.env := plain_star hb.pl
  refine wE.of (pe_callB (call_min2 A.good.calm) (A.good.glo g1) (A.good.none f1) rfl (pa_cons (wE_pe a) (pa_cons (wE_pe b) pa_nil st2) st) (by decide) (by decide) st (by rw [st2]; rfl)) ?_
  refine ha.ex.use A ((PostE.bind h).imp fun x H1 s1 e1 h1 v r1 _ => ?_)
  have A1 := A.ext e1
  refine hb.ex.use A1 ((PostE.bind h1).imp fun y H2 s2 e2 h2 u r2 _ => ?_)
  unfold minD at h2
  split at h2
  · cases r1.int
    cases r2.int
    exact ⟨_, _, rfl, (PostE.ans (own := false) h2).here (A1.ext e2).box (.int _)⟩
  · exact h2.elim
end
end Pd
end
section
/-! Pd: calls by keywords; isinstance by several types. -/
namespace Pd
open PySem PySem.Spec PyProof.Rows L2
def wK (X : Cx) (es : List Keyword) : TA := fun σ H Q => ∃ t, PK X es t ∧ ∃ Q', t σ H Q' ∧ ∀ v H', Q' v H' → Q v H'
theorem wK_pk {X : Cx} (es : List Keyword) : PK X es (wK X es) := ⟨fun pos pins s σ H Q I ⟨t, h, Q', q, m⟩ => thn (h.run pos pins s σ H Q' I q) fun u s' ⟨v, H', I', r, q'⟩ => ⟨v, H', I', r, m v H' q'⟩⟩
theorem wK.of {X : Cx} {es : List Keyword} {t : TA} {σ : L2.St} {H : Hp} {Q : List V → Hp → Prop} (h : PK X es t) (q : t σ H Q) : wK X es σ H Q := ⟨t, h, Q, q, fun _ _ z => z⟩
def kwE : List Str → List Expr → List Keyword → Bool
  | [], [], [] => true
  | k :: ks, e :: es, ⟨some n, e', _⟩ :: kws => decide (n = k) && kwE ks es kws
  | _, _, _ => false
/-- the keywords' names -/
def kwNs : List Keyword → List (Option Str)
  | [] => []
  | ⟨n, _, _⟩ :: r => n :: kwNs r
def kwEs : List Keyword → List Expr
  | [] => []
  | ⟨_, e, _⟩ :: r => e :: kwEs r
theorem kw_names {pos : Pos} {env : PySem.Env} : ∀ kws : List Keyword, (backToKw pos (keywordEach kws env)).map (·.1) = kwNs kws
  | [] => rfl
  | ⟨n, e, p⟩ :: r => by
    show n :: (backToKw pos (keywordEach r env)).map (·.1) = n :: kwNs r
    rw [kw_names r]
section
variable {g : G} {Φ : Nat → Fn} {Cn : List D} {k : Nat} {sc : Sk} {X : Cx} {W : WX} {β : Option Addr} {M0 : List Addr} {ms : List (Option Addr)} {H : Hp} {σ : L2.St} {ρ : Env} {s : Bx} {Q R : VK}
variable {a b c e : Expr} {es : List Expr} {ma mb mc : Env → M D} {oa ob oc os : Env → Bool} {ml : Env → M (List D)} {mas : Env → M (List Val)} {pos p2 p : Pos}
variable (g Φ Cn k sc) in
/-- the values of keywords -/
def SK (kws : List Keyword) (m : Env → M (List D)) : Prop := ∀ (X : Cx) (W : WX) (β : Option Addr) (M0 : List Addr) (ms : List (Option Addr)) (H : Hp) (σ : L2.St) (ρ : Env) (s : Bx) (Q : List V → Hp → Prop), At g Φ Cn k sc X W β M0 ms H σ ρ s →
  PostM X.K X.mg g W σ β (M0 ++ owns ms) H s (m ρ s) (fun ds H' s' => ∀ vs, RpA X.K (hid (M0 ++ owns ms) H') vs ds → vs.length = kws.length → Q vs H') → wK X kws σ H Q
theorem k_nil : SK g Φ Cn k sc [] (fun _ => .pure []) := fun X W β M0 ms H σ ρ s Q A h =>
  wK.of pk_nil (PostM.here h A.box [] .nil rfl)
theorem k_cons {n : Option Str} {kp : Pos} {kws : List Keyword} (ha : SB g Φ Cn k sc a ma oa) (hr : SK g Φ Cn k sc kws ml) : SK g Φ Cn k sc (⟨n, a, kp⟩ :: kws) (fun ρ => if oa ρ then .bad else .bind (ma ρ) fun x => .bind (ml ρ) fun xs => .pure (x :: xs)) := by
  intro X W β M0 ms H σ ρ s Q A h
  refine wK.of (pk_cons (wE_pe a) (wK_pk kws)) ?_
  have h : PostM X.K X.mg g W σ β (M0 ++ owns ms) H s ((if oa ρ then Pd.M.bad else .bind (ma ρ) fun x => .bind (ml ρ) fun xs => .pure (x :: xs)) s) (fun ds H' s' => ∀ vs, RpA X.K (hid (M0 ++ owns ms) H') vs ds → vs.length = (Keyword.mk n a kp :: kws).length → Q vs H') := h
  cases eo : oa ρ with
  | true =>
    rw [eo] at h
    exact h.elim
  | false =>
    rw [eo] at h
    refine ha.ex.use A (PostM.bind h |>.imp fun x H1 s1 e1 h1 v r1 r2 => ?_)
    have A1 := A.ext e1
    refine hr X W β M0 ms H1 σ ρ s1 _ A1 (h1.bind.imp fun xs H2 s2 e2 h2 vs r3 l3 => ?_)
    exact PostM.here h2 (A1.ext e2).box _ (.cons ((r2 eo).same e2.same) r3) (congrArg (· + 1) l3)
theorem RpA.pm {K : PySem.W.Frag} {H : Hp} {vs : List V} {ds : List PyData} (r : RpA K H vs ds) : ∀ pm : List Nat, RpA K H (pmL pm vs) (pmL pm ds)
  | [] => .nil
  | i :: pm => by
    have ih := RpA.pm r pm
    unfold pmL at ih ⊢
    rw [List.filterMap_cons, List.filterMap_cons]
    cases e : ds[i]? with
    | none =>
      have : vs[i]? = none := by
        rw [List.getElem?_eq_none_iff] at e ⊢
        rw [r.length]
        exact e
      rw [this]
      exact ih
    | some d =>
      obtain ⟨v, e2, rv⟩ := r.get e
      rw [e2]
      exact .cons rv ih
theorem vals_pm {vs : List V} {us : List Value} (r : Vals vs us) : ∀ pm : List Nat, Vals (pmL pm vs) (pmL pm us)
  | [] => .nil
  | i :: pm => by
    have ih := vals_pm r pm
    unfold pmL at ih ⊢
    rw [List.filterMap_cons, List.filterMap_cons]
    cases e : vs[i]? with
    | none =>
      have : us[i]? = none := by
        rw [List.getElem?_eq_none_iff] at e ⊢
        rw [← r.length]
        exact e
      rw [this]
      exact ih
    | some d =>
      obtain ⟨u, e2, rv⟩ := r.get e
      rw [e2]
      exact .cons rv ih
theorem rvA_dat {K : PySem.W.Frag} {M : List Addr} : ∀ {vs : List V} {ds : List PyData}, RpA K (hid M H) vs ds → ArgR K β M H [] vs (ds.map .dat)
  | _, _, .nil => .nil
  | _, _, .cons h r => .dat h (rvA_dat r)
theorem kwNs_len : ∀ kws : List Keyword, (kwNs kws).length = kws.length
  | [] => rfl
  | ⟨_, _, _⟩ :: r => congrArg (· + 1) (kwNs_len r)
theorem kit_two {K : PySem.W.Frag} {d : PyData} {t1 t2 : Ty} (kd : knownD d = true) : PySem.W.kitAny K (.type (kindS d)) [.type (tyS t1), .type (tyS t2)] = some ([t1, t2].any (tyOf d)) := by
  refine kitAny_cons (kit_ty (kit_d kd t1)) (fun e => ?_) (fun e => ?_)
  · refine kitAny_cons (kit_ty (kit_d kd t2)) (fun e2 => ?_) (fun e2 => ?_)
    · rw [List.any_cons, List.any_cons, e, e2]
      rfl
    · rw [List.any_cons, List.any_cons, e2]
      simp
  · rw [List.any_cons, e]
    rfl
def kwOk (ks : List Str) (kws : List Keyword) : Bool := decide (kwNs kws = ks.map some)
theorem b_kcall {f : Nat} {fi : FI} {ks : List Str} {pm : List Nat} {kws : List Keyword} (hf : g.fns[f]? = some fi) (hk : (f, ks, pm) ∈ g.kws) (hks : kwOk ks kws = true) (hg : gloB sc.run fi.nm = true) (ok : okN fi.nm = true) (ha : SK g Φ Cn k sc kws ml) :
    SB g Φ Cn k sc (.Call (.Name fi.nm p) [] kws pos) (fun ρ => .bind (ml ρ) fun xs => Φ f ((pmL pm xs).map .dat)) (fun _ => false) := by
  refine .of rfl ?_
  intro X W β M0 ms H σ ρ s Q A h
  obtain ⟨q, fd, e1, e2, e3, e4, e5⟩ := A.good.gf.fn f fi hf
  obtain ⟨p1, p2, p3⟩ := e5 ks pm hk
  have hks : kwNs kws = ks.map some := by simpa [kwOk] using hks
  have key : PE X (.Call (.Name fi.nm p) [] kws pos) (fun σ H Q => wK X kws σ H fun zs H2 => zs.length = ks.length ∧ spF X.K X.mg g.errs (Φ f) fi.ps.length (pmL pm zs) H2 Q (WW W σ)) := by
    refine ⟨fun pins s σ H Q I h => ?_⟩
    refine wpAny_Call_Name_kw (ld_glob I (A.good.glo hg) e1 ?_ (okN_d ok))
    have n1 : (backToKw pos (keywordEach kws X.env)).map (·.1) = ks.map some := (kw_names kws).trans hks
    have n2 : (backToKw pos (keywordEach kws X.env)).all (·.1.isSome) = true := by
      have : ((backToKw pos (keywordEach kws X.env)).map (·.1)).all Option.isSome = true := by
        rw [n1]
        simp
      rw [List.all_map] at this
      exact this
    have n3 : (backToKw pos (keywordEach kws X.env)).filterMap (·.1) = ks := by
      have : ((backToKw pos (keywordEach kws X.env)).map (·.1)).filterMap id = ks := by
        rw [n1]
        simp [List.filterMap_map]
      rw [List.filterMap_map] at this
      exact this
    have n4 : ((backTo pos (starEach [] X.env)).any (·.1) || (backToKw pos (keywordEach kws X.env)).any (·.1.isNone)) = false := by
      have : (backToKw pos (keywordEach kws X.env)).any (·.1.isNone) = false := by
        rw [List.any_eq_false]
        intro x hx
        have := List.all_eq_true.mp n2 x hx
        simpa [Option.isNone_iff_eq_none, Option.isSome_iff_ne_none] using this
      rw [this]
      rfl
    refine PySem.W.callWith_KW0 (h₀ := X.base) I.ok.mod.kin e2 n2 (thn ((wK_pk kws).run pos pins s σ H _ I h) fun ws s2 ⟨zs, H2, I2, rz, l2, q2⟩ => ⟨I2.kIn, ?_⟩) n4
    rw [n3]
    have lw : ws.length = ks.length := rz.length.symm.trans l2
    have r2 := vals_pm rz pm
    show wpAny _ _ (call (.ref q) [] (ks.zip ws)) _ _ _
    refine wpAny_call (codeAny_mono (e4.run X.A X.stack s2 H2 ⟨[], ks.zip ws⟩ (pmL pm ws) (pmL pm zs) Q (WW W σ) A.good.room I2.env0 (p3 s2 ws I2.kIn lw) r2 q2) fun r s' hq => ?_)
    cases r with
    | error e => exact (passAt A.good.tk σ) pins H2 s2 e s' I2 hq
    | ok fl =>
      cases fl with
      | ret u => exact I2.after hq
      | next => exact False.elim hq
      | brk => exact False.elim hq
      | cont => exact False.elim hq
  refine wE.of key ?_
  refine ha X W β M0 ms H σ ρ s _ A ((PostE.bind h).imp fun ds H1 s1 x1 h1 vs r l => ?_)
  refine ⟨l.trans ((kwNs_len kws).symm.trans ((congrArg List.length hks).trans (List.length_map _))), ?_⟩
  exact call_sp (own := false) (A.ext x1) (fun z => A.good.gf.lenF f fi _ s1 hf z) (rvA_dat (r.pm pm)) (fun _ => rfl) h1
/-- isinstance(a, (T1, T2)) -/
theorem b_isiT {t1 t2 : Ty} {p3 p4 p5 : Pos} {j : Nat} (f1 : ("isinstance" : Str) ∈ g.free) (f2 : gloB sc.run "isinstance" = true) (h1 : tyN t1 ∈ g.free) (h2 : gloB sc.run (tyN t1) = true) (h3 : tyN t2 ∈ g.free) (h4 : gloB sc.run (tyN t2) = true) (ha : SB g Φ Cn k sc a ma oa) :
    SB g Φ Cn k sc (.Call (.Name "isinstance" p) [a, .Tuple [.Name (tyN t1) p3, .Name (tyN t2) p4] j p5] [] pos) (fun ρ => .bind (ma ρ) fun x => .pure (.bool ([t1, t2].any (tyOf x)))) (fun _ => false) := by
  refine .of rfl ?_
  intro X W β M0 ms H σ ρ s Q A h
  have pt1 : PE X (.Name (tyN t1) p3) (tC (.ty (tyS t1))) := pe_bltn (A.good.glo h2) (A.good.none h1) (tyN_boot t1) rfl (okN_n (tyN_ok t1)) (okN_d (tyN_ok t1))
  have pt2 : PE X (.Name (tyN t2) p4) (tC (.ty (tyS t2))) := pe_bltn (A.good.glo h4) (A.good.none h3) (tyN_boot t2) rfl (okN_n (tyN_ok t2)) (okN_d (tyN_ok t2))
  have st : starEach [a, .Tuple [.Name (tyN t1) p3, .Name (tyN t2) p4] j p5] X.env = (false, eval a X.env) :: starEach [.Tuple [.Name (tyN t1) p3, .Name (tyN t2) p4] j p5] X.env := plain_star ha.pl
  refine wE.of (pe_callB call_isiT (A.good.glo f2) (A.good.none f1) rfl (pa_cons (wE_pe a) (pa_cons (pe_tup (pa_cons pt1 (pa_cons pt2 pa_nil rfl) rfl)) pa_nil rfl) st) (by decide) (by decide) st rfl) ?_
  refine ha.ex.use A ((PostE.bind h).imp fun d H1 s1 e1 h1' v r _ => ?_)
  refine ⟨by show 2 ≤ sizeLine; decide, fun u hu => ?_⟩
  have A1 := A.ext e1
  have x2 := Ext.new (o := .tup [.ty (tyS t1), .ty (tyS t2)]) A1.box A1.liveA hu
  have q := PostE.ans (own := false) h1'
  have q := q _ _ x2 (.bl _)
  obtain ⟨kd, ty⟩ := rw_known (r.ext x2.toKept)
  exact ⟨v, u, _, _, _, [t1, t2].any (tyOf d), rfl, upd_same, .cons (.ty _) (.cons (.ty _) .nil), ty, kit_two kd, q⟩
end
end Pd
end
section
/-! Pd: targets, iterators. -/
namespace Pd
open PySem PySem.Spec PyProof.Rows L2

/-! ### slots are set -/
theorem owns_none : ∀ (ms : List (Option Addr)) (i : Nat), (owns (ms.set i none)).Sublist (owns ms)
  | [], _ => List.Sublist.refl _
  | m :: r, 0 => by
    show (owns r).Sublist (owns (m :: r))
    cases m with
    | none => exact List.Sublist.refl _
    | some p => exact List.sublist_cons_self p _
  | m :: r, i + 1 => by
    show (owns (m :: r.set i none)).Sublist (owns (m :: r))
    cases m with
    | none => exact owns_none r i
    | some p => exact (owns_none r i).cons₂ p
theorem set_cases {α : Type} {l : List α} {i j : Nat} {x y : α} (h : (l.set i x)[j]? = some y) : (i = j ∧ i < l.length ∧ y = x) ∨ (¬ (i = j) ∧ l[j]? = some y) := by
  by_cases e : i = j
  · subst e
    have lt : i < l.length := by
      have := (List.getElem?_eq_some_iff.mp h).1
      simpa using this
    rw [List.getElem?_set_self lt] at h
    exact .inl ⟨rfl, lt, (Option.some.inj h).symm⟩
  · rw [List.getElem?_set_ne e] at h
    exact .inr ⟨e, h⟩
section
variable {K : PySem.W.Frag} {β : Option Addr} {M0 : List Addr} {ms : List (Option Addr)} {H H' : Hp} {σ : L2.St} {ρ : Env}
theorem SlotR.mono {M M' : List Addr} {x : Option (Option V)} {m : Option (Option Addr)} {sl : Slot} (h : ∀ a ∈ M', a ∈ M) (r : SlotR K β M H x m sl) : SlotR K β M' H x m sl := by
  cases sl with
  | un => exact r
  | dat d =>
    obtain ⟨q1, v, q2, q3⟩ := r
    exact ⟨q1, v, q2, q3.same (hid_le h)⟩
  | scr ns =>
    obtain ⟨q1, v, q2, q3⟩ := r
    exact ⟨q1, v, q2, q3.same (hid_le h)⟩
  | own ds =>
    obtain ⟨p, vs, q1, q2, q3, q4⟩ := r
    exact ⟨p, vs, q1, q2, q3, q4.same (hid_le h)⟩
  | box => exact r
theorem sub_app {L L' : List Addr} (h : L'.Sublist L) : ∀ a ∈ M0 ++ L', a ∈ M0 ++ L := fun a ha => by
  rcases List.mem_append.mp ha with z | z
  · exact List.mem_append_left _ z
  · exact List.mem_append_right _ (h.subset z)
theorem SRel.put (S : SRel K β M0 ms H σ ρ) {i : Nat} {v : V} {d : D} (r : Rp K (hid (M0 ++ owns (ms.set i none)) H) v d) : SRel K β M0 (ms.set i none) H (σ.set i (some v)) (ρ.set i (.dat d)) := by
  refine ⟨by simpa using S.len, fun j sl e => ?_, by simpa using S.mlen, S.nd.sublist (owns_none ms i), fun p hp => S.ap p ((owns_none ms i).subset hp)⟩
  rcases set_cases e with ⟨rfl, lt, rfl⟩ | ⟨ne, e1⟩
  · refine ⟨?_, v, ?_, r⟩
    · rw [List.getElem?_set_self (by rw [S.mlen]; exact lt)]
    · rw [List.getElem?_set_self (by rw [S.len]; exact lt)]
  · rw [List.getElem?_set_ne ne, List.getElem?_set_ne ne]
    exact (S.at_ j sl e1).mono (sub_app (owns_none ms i))
theorem SRel.clear (S : SRel K β M0 ms H σ ρ) {i : Nat} {o : Option V} : SRel K β M0 (ms.set i none) H (σ.set i o) (ρ.set i .un) := by
  refine ⟨by simpa using S.len, fun j sl e => ?_, by simpa using S.mlen, S.nd.sublist (owns_none ms i), fun p hp => S.ap p ((owns_none ms i).subset hp)⟩
  rcases set_cases e with ⟨rfl, lt, rfl⟩ | ⟨ne, e1⟩
  · show (ms.set i none)[i]? = _
    rw [List.getElem?_set_self (by rw [S.mlen]; exact lt)]
  · rw [List.getElem?_set_ne ne, List.getElem?_set_ne ne]
    exact (S.at_ j sl e1).mono (sub_app (owns_none ms i))
end
theorem wipe_set {σ : L2.St} {i : Nat} {o : Option V} : ∀ {vs : List Nat}, i ∈ vs → wipe (σ.set i o) vs = wipe σ vs
  | v :: vs, h => by
    by_cases e : v = i
    · subst e
      apply List.ext_getElem?
      intro j
      show ((wipe (σ.set v o) vs).set v none)[j]? = ((wipe σ vs).set v none)[j]?
      by_cases ej : v = j
      · subst ej
        by_cases hl : v < σ.length
        · rw [List.getElem?_set_self (by rw [wipe_length]; simpa using hl), List.getElem?_set_self (by rw [wipe_length]; exact hl)]
        · rw [List.getElem?_eq_none (by rw [List.length_set, wipe_length, List.length_set]; omega), List.getElem?_eq_none (by rw [List.length_set, wipe_length]; omega)]
      · rw [List.getElem?_set_ne ej, List.getElem?_set_ne ej]
        by_cases hv : v ∈ vs
        · rw [wipe_set hv]
        · exact wipe_other vs ej
    · have hm : i ∈ vs := by
        rcases List.mem_cons.mp h with z | z
        · exact absurd z.symm e
        · exact z
      show (wipe (σ.set i o) vs).set v none = (wipe σ vs).set v none
      rw [wipe_set hm]
where wipe_other {σ : L2.St} {i j : Nat} {o : Option V} : ∀ (vs : List Nat), ¬ (i = j) → (wipe (σ.set i o) vs)[j]? = (wipe σ vs)[j]?
  | [], e => by
    show (σ.set i o)[j]? = σ[j]?
    rw [List.getElem?_set_ne e]
  | v :: vs, e => by
    show ((wipe (σ.set i o) vs).set v none)[j]? = ((wipe σ vs).set v none)[j]?
    by_cases ej : v = j
    · subst ej
      by_cases hl : v < σ.length
      · rw [List.getElem?_set_self (by rw [wipe_length]; simpa using hl), List.getElem?_set_self (by rw [wipe_length]; exact hl)]
      · rw [List.getElem?_eq_none (by rw [List.length_set, wipe_length, List.length_set]; omega), List.getElem?_eq_none (by rw [List.length_set, wipe_length]; omega)]
    · rw [List.getElem?_set_ne ej, List.getElem?_set_ne ej]
      exact wipe_other vs e

/-! ### targets -/
def nmOk (g : G) (sc : Sk) (i : Nat) (x : Str) : Bool := decide (g.N[i]? = some x) && stoB sc.wr x
def tgNames (g : G) (sc : Sk) : List Nat → List Expr → Bool
  | [], [] => true
  | i :: is, .Name x _ :: es => nmOk g sc i x && tgNames g sc is es
  | _, _ => false
def tgOk (g : G) (sc : Sk) : Tg → Expr → Bool
  | .nm i, .Name x _ => nmOk g sc i x
  | .tp is, .Tuple es _ _ => tgNames g sc is es
  | _, _ => false
def tgSlots : Tg → List Nat
  | .nm i => [i]
  | .tp is => is
section
variable {g : G} {Φ : Nat → Fn} {Cn : List D} {k : Nat} {sc : Sk} {X : Cx} {W : WX} {β : Option Addr} {M0 : List Addr} {ms : List (Option Addr)} {H : Hp} {σ : L2.St} {ρ : Env} {s : Bx}
theorem At.mem_none (A : At g Φ Cn k sc X W β M0 ms H σ ρ s) (i : Nat) : ∀ a ∈ M0 ++ owns (ms.set i none), a ∈ M0 ++ owns ms := sub_app (owns_none ms i)
theorem At.put (A : At g Φ Cn k sc X W β M0 ms H σ ρ s) {i : Nat} {v : V} {d : D} (r : Rp X.K (hid (M0 ++ owns ms) H) v d) : At g Φ Cn k sc X W β M0 (ms.set i none) H (σ.set i (some v)) (ρ.set i (.dat d)) s :=
  ⟨A.good, A.rel.put (r.same (hid_le (A.mem_none i))), A.box, A.live, A.bin⟩
theorem pg_nm (A : Good g Φ Cn k sc X W) {i : Nat} {x : Str} {pos : Pos} (h : nmOk g sc i x = true) : PG X (.Name x pos) (gName i) := by
  unfold nmOk at h
  rw [Bool.and_eq_true, decide_eq_true_eq] at h
  obtain ⟨l, f⟩ := A.fnm x h.2
  have hl : Loc X.env.scope x := by
    rw [A.sc_]
    exact l
  exact pg_name A.nd (by rw [A.nm]; exact h.1) hl (by rw [A.sc_]; exact f)
def setAll : List Nat → List V → L2.St → L2.St
  | i :: is, v :: vs, σ => setAll is vs (σ.set i (some v))
  | _, _, σ => σ
def gAll : List Nat → TGs
  | [] => gNil
  | i :: is => gCons (gName i) (gAll is)
theorem pgs_all (A : Good g Φ Cn k sc X W) : ∀ {is : List Nat} {es : List Expr}, tgNames g sc is es = true → PGs X es (gAll is) ∧ (assignEach es X.env).length = is.length ∧ (assignEach es X.env).findIdx? (·.1) = none
  | [], [], _ => ⟨pgs_nil, rfl, rfl⟩
  | i :: is, [], h => by cases h
  | [], e :: es, h => by cases e <;> cases h
  | i :: is, e :: es, h => by
    cases e with
    | Name x p =>
      have h : (nmOk g sc i x && tgNames g sc is es) = true := h
      rw [Bool.and_eq_true] at h
      obtain ⟨h1, h2, h3⟩ := pgs_all A h.2
      refine ⟨pgs_cons (pg_nm A h.1) h1, ?_, ?_⟩
      · show (assignEach es X.env).length + 1 = is.length + 1
        rw [h2]
      · show ((false, assign (.Name x p) X.env) :: assignEach es X.env).findIdx? (·.1) = none
        rw [List.findIdx?_cons, h3]
        rfl
    | _ => cases h
theorem gAll_run {Q : L2.St → Hp → Prop} : ∀ {is : List Nat} {vs : List V} {σ : L2.St}, vs.length = is.length → Q (setAll is vs σ) H → gAll is vs σ H Q
  | [], [], _, _, q => ⟨rfl, q⟩
  | i :: is, v :: vs, σ, h, q => ⟨v, vs, rfl, gAll_run (by simpa using h) q⟩
theorem set_none_id {ms : List (Option Addr)} {i : Nat} (h : ∀ p, ms[i]? ≠ some (some p)) : ms.set i none = ms := by
  apply List.ext_getElem?
  intro j
  by_cases e : i = j
  · subst e
    by_cases hl : i < ms.length
    · rw [List.getElem?_set_self hl]
      have e1 := List.getElem?_eq_getElem hl
      cases q : ms[i] with
      | none => rw [e1, q]
      | some p => exact (h p (by rw [e1, q])).elim
    · rw [List.getElem?_eq_none (by simpa using hl), List.getElem?_eq_none (by simpa using hl)]
  · rw [List.getElem?_set_ne e]
theorem bind_all : ∀ {is : List Nat} {ds : List D} {vs : List V} {ρ ρ' : Env} {σ : L2.St} {ms : List (Option Addr)}, bindAll is ds ρ = some ρ' → At g Φ Cn k sc X W β M0 ms H σ ρ s → RpA X.K (hid (M0 ++ owns ms) H) vs ds →
    vs.length = is.length ∧ ∃ ms', At g Φ Cn k sc X W β M0 ms' H (setAll is vs σ) ρ' s ∧ (owns ms').Sublist (owns ms) ∧ ((∀ i ∈ is, ∀ p, ms[i]? ≠ some (some p)) → ms' = ms) ∧ ∀ ws, (∀ i ∈ is, i ∈ ws) → wipe (setAll is vs σ) ws = wipe σ ws
  | [], [], _, ρ, ρ', σ, ms, e, A, r => by
    cases r
    cases e
    exact ⟨rfl, ms, A, List.Sublist.refl _, fun _ => rfl, fun _ _ => rfl⟩
  | [], d :: ds, vs, ρ, ρ', σ, ms, e, A, r => by cases e
  | i :: is, [], vs, ρ, ρ', σ, ms, e, A, r => by cases e
  | i :: is, d :: ds, _, ρ, ρ', σ, ms, e, A, .cons (v := v) (vs := vs) h r => by
    obtain ⟨h1, ms', h2, h3, h5, h4⟩ := bind_all (ds := ds) (vs := vs) (ρ := ρ.set i (.dat d)) e (A.put (i := i) h) (r.same (hid_le (A.mem_none i)))
    refine ⟨congrArg (· + 1) h1, ms', h2, h3.trans (owns_none ms i), fun hn => ?_, fun ws hw => ?_⟩
    · have e2 := set_none_id (ms := ms) (i := i) (hn i List.mem_cons_self)
      rw [h5 fun j hj p => by rw [e2]; exact hn j (List.mem_cons_of_mem _ hj) p, e2]
    have e1 := h4 ws fun j hj => hw j (List.mem_cons_of_mem _ hj)
    show wipe (setAll is vs (σ.set i (some v))) ws = _
    rw [e1, wipe_set (hw i List.mem_cons_self)]
/-- a target takes a value -/
theorem tg_run {tg : Tg} {e : Expr} {v : V} {d : D} {ρ' : Env} {s' : Bx} {Q : L2.St → Hp → Prop} (ok : tgOk g sc tg e = true) (A : At g Φ Cn k sc X W β M0 ms H σ ρ s) (eb : bindTg tg d ρ s = .ok ρ' s') (r : Rp X.K (hid (M0 ++ owns ms) H) v d)
    (q : ∀ ms' σ', At g Φ Cn k sc X W β M0 ms' H σ' ρ' s → (owns ms').Sublist (owns ms) → ((∀ i ∈ tgSlots tg, ∀ p, ms[i]? ≠ some (some p)) → ms' = ms) → (∀ ws, (∀ i ∈ tgSlots tg, i ∈ ws) → wipe σ' ws = wipe σ ws) → Q σ' H) : s' = s ∧ wG X e v σ H Q := by
  cases tg with
  | nm i =>
    cases e with
    | Name x p =>
      cases eb
      exact ⟨rfl, _, pg_nm A.good ok, q _ _ (A.put r) (owns_none ms i) (fun hn => set_none_id (hn i List.mem_cons_self)) fun ws hw => wipe_set (hw i List.mem_cons_self)⟩
    | _ => cases ok
  | tp is =>
    cases e with
    | Tuple es j p =>
      cases d with
      | tuple xs =>
        have eb : Pd.M.ofOpt (bindAll is xs ρ) s = .ok ρ' s' := eb
        cases ea : bindAll is xs ρ with
        | none =>
          rw [ea] at eb
          cases eb
        | some ρ2 =>
          rw [ea] at eb
          cases eb
          obtain ⟨h1, h2, h3⟩ := pgs_all A.good ok
          obtain ⟨p, vs, rfl, g1, g2, g3⟩ := (Rw.rp (β := β) r).tuple
          obtain ⟨l, ms', A', sb, nn, wp⟩ := bind_all ea A g3
          exact ⟨rfl, _, pg_tup A.good.calm h1 h2 h3, p, vs, rfl, g2, l, gAll_run l (q ms' _ A' sb nn wp)⟩
      | list xs =>
        have eb : Pd.M.ofOpt (bindAll is xs ρ) s = .ok ρ' s' := eb
        cases ea : bindAll is xs ρ with
        | none =>
          rw [ea] at eb
          cases eb
        | some ρ2 =>
          rw [ea] at eb
          cases eb
          obtain ⟨h1, h2, h3⟩ := pgs_all A.good ok
          cases r with
          | lst g2 g3 =>
            obtain ⟨l, ms', A', sb, nn, wp⟩ := bind_all ea A g3
            exact ⟨rfl, _, pg_unl A.good.calm h1 h2 h3, _, _, rfl, .inl (.inl (hid_some.mp g2).2), l, gAll_run l (q ms' _ A' sb nn wp)⟩
      | _ => cases eb
    | _ => cases ok
end

/-! ### iterators -/
/-- what a walk's turn gives, by data that stood at H1 -/
def DY (K : PySem.W.Frag) (M : List Addr) (H1 : Hp) (xs : List D) : Nat → Hp → V → Hp → Prop := fun i H x H' =>
  ∃ d, xs[i]? = some d ∧ ((H' = H ∧ Rp K (hid M H1) x d) ∨ ∃ T ys es, H T = none ∧ H' = upd H T (.tup ys) ∧ x = .ref T ∧ d = .tuple es ∧ RpA K (hid M H1) ys es)
def DG (M : List Addr) (H1 : Hp) (S : List Addr) : Hp → Prop := fun H => Same (hid M H1) H ∧ ∀ a ∈ S, H a = H1 a
abbrev DW (K : PySem.W.Frag) (M : List Addr) (H1 : Hp) (S : List Addr) (xs : List D) (J : L2.It) : Prop := Walk J xs.length (DG M H1 S) (DY K M H1 xs)
section
variable {K : PySem.W.Frag} {β : Option Addr} {M : List Addr} {H H' : Hp} {vs : List V} {ds : List D}
theorem RpA.get' (r : RpA K H vs ds) {i : Nat} {v : V} (e : vs[i]? = some v) : ∃ d, ds[i]? = some d ∧ Rp K H v d := by
  have lt : i < vs.length := (List.getElem?_eq_some_iff.mp e).1
  have lt2 : i < ds.length := by
    rw [← r.length]
    exact lt
  obtain ⟨v', e1, r1⟩ := r.get (List.getElem?_eq_getElem lt2)
  rw [e] at e1
  cases e1
  exact ⟨_, List.getElem?_eq_getElem lt2, r1⟩
/-- a list at hand: where it stands, and what must be kept for it -/
theorem Rw.src {v : V} (own : Bool) (r : Rw K β M H v (.list ds)) (ho : own = false → Rp K (hid M H) v (.list ds)) :
    ∃ p vs S, v = .ref p ∧ RpA K (hid M H) vs ds ∧ (∀ H', DG M H S H' → SqL K H' p vs) ∧ (∀ a ∈ S, a ∈ M ∧ β ≠ some a) ∧ (own = false → S = []) := by
  cases own with
  | false =>
    have h := ho rfl
    cases h with
    | lst h r => exact ⟨_, _, [], rfl, r, fun H' z => .inl (.inl (z.1 _ _ h)), (fun a z => by cases z), fun _ => rfl⟩
  | true =>
    cases r with
    | rp h =>
      cases h with
      | lst h r => exact ⟨_, _, [], rfl, r, fun H' z => .inl (.inl (z.1 _ _ h)), (fun a z => by cases z), fun z => by cases z⟩
    | own h1 h2 h3 h4 =>
      refine ⟨_, _, [_], rfl, h4, (fun H' z => .inl (.inl ((z.2 _ List.mem_cons_self).trans h3))), (fun a z => ?_), fun z => by cases z⟩
      cases List.mem_singleton.mp z
      exact ⟨h1, h2⟩
theorem Rw.srcT {v : V} (r : Rw K β M H v (.tuple ds)) : ∃ p vs, v = .ref p ∧ RpA K (hid M H) vs ds ∧ ∀ H', DG M H [] H' → SqT K H' p vs := by
  obtain ⟨p, vs, rfl, h1, h2, h3⟩ := r.tuple
  exact ⟨p, vs, rfl, h3, fun H' z => sqT_same z.1 h1⟩
theorem dw_list {p : Addr} {S : List Addr} (r : RpA K (hid M H) vs ds) (hq : ∀ H', DG M H S H' → SqL K H' p vs) : DW K M H S ds (Itl K p) := by
  have w := (walk_list (K := K) (a := p) (xs := vs)).mono (G' := DG M H S) (Y' := DY K M H ds) hq fun i H2 x H' hi hg ⟨e, ex⟩ => by
    obtain ⟨d, e1, r1⟩ := r.get' ex
    exact ⟨d, e1, .inl ⟨e, r1⟩⟩
  rw [r.length] at w
  exact w
theorem dw_tup {p : Addr} {S : List Addr} (r : RpA K (hid M H) vs ds) (hq : ∀ H', DG M H S H' → SqT K H' p vs) : DW K M H S ds (Itt K p) := by
  have w := (walk_tup (K := K) (a := p) (xs := vs)).mono (G' := DG M H S) (Y' := DY K M H ds) hq fun i H2 x H' hi hg ⟨e, ex⟩ => by
    obtain ⟨d, e1, r1⟩ := r.get' ex
    exact ⟨d, e1, .inl ⟨e, r1⟩⟩
  rw [r.length] at w
  exact w
theorem dw_str {z : Str} : DW K M H [] (signs z) (Its z) := by
  have w := (walk_str (z := z)).mono (G' := DG M H []) (Y' := DY K M H (signs z)) (fun _ _ => trivial) fun i H2 x H' hi hg ⟨e1, c, e2, e3⟩ => by
    refine ⟨.str ⟨#[c]⟩, ?_, .inl ⟨e1, by rw [e3]; exact .str _⟩⟩
    unfold signs
    rw [List.getElem?_map]
    have : z.cps.toList[i]? = some c := by simpa using e2
    rw [this]
    rfl
  have e : z.cps.size = (signs z).length := by simp [signs]
  rw [e] at w
  exact w
theorem rangeD_get : ∀ (n : Nat) (lo : Int) (i : Nat), i < n → (rangeD lo n)[i]? = some (.int (lo + i))
  | n + 1, lo, 0, _ => by simp [rangeD]
  | n + 1, lo, i + 1, h => by
    show (rangeD (lo + 1) n)[i]? = _
    rw [rangeD_get n (lo + 1) i (by omega)]
    congr 2
    omega
theorem rangeD_len : ∀ (n : Nat) (lo : Int), (rangeD lo n).length = n
  | 0, _ => rfl
  | n + 1, lo => congrArg (· + 1) (rangeD_len n (lo + 1))
theorem dw_range {lo : Int} {n : Nat} : DW K M H [] (rangeD lo n) (Itr lo n) := by
  have w := (walk_range (lo := lo) (n := n)).mono (G' := DG M H []) (Y' := DY K M H (rangeD lo n)) (fun _ _ => trivial) fun i H2 x H' hi hg ⟨e, ex⟩ => by
    refine ⟨_, rangeD_get n lo i hi, .inl ⟨e, ?_⟩⟩
    rw [ex]
    exact .int _
  have e := rangeD_len n lo
  rw [show DW K M H [] (rangeD lo n) (Itr lo n) = Walk (Itr lo n) (rangeD lo n).length (DG M H []) (DY K M H (rangeD lo n)) from rfl, e]
  exact w
theorem enumD_get : ∀ (xs : List D) (lo : Int) (i : Nat) (d : D), xs[i]? = some d → (enumD lo xs)[i]? = some (.tuple [.int (lo + i), d])
  | x :: r, lo, 0, d, e => by
    simp at e
    subst e
    simp [enumD]
  | x :: r, lo, i + 1, d, e => by
    show (enumD (lo + 1) r)[i]? = _
    rw [enumD_get r (lo + 1) i d (by simpa using e)]
    congr 4
    omega
theorem enumD_len : ∀ (xs : List D) (lo : Int), (enumD lo xs).length = xs.length
  | [], _ => rfl
  | _ :: r, lo => congrArg (· + 1) (enumD_len r (lo + 1))
theorem dw_enum {p : Addr} {S : List Addr} (r : RpA K (hid M H) vs ds) (hq : ∀ H', DG M H S H' → SqL K H' p vs) : DW K M H S (enumD 0 ds) (Ite K p) := by
  have w := (walk_enum (K := K) (a := p) (xs := vs)).mono (G' := DG M H S) (Y' := DY K M H (enumD 0 ds)) hq fun i H2 x H' hi hg ⟨T, y, z, e1, e2, e3, e4, e5⟩ => by
    obtain ⟨d, e6, r1⟩ := r.get' e5
    cases e4
    refine ⟨_, enumD_get ds 0 i d e6, .inr ⟨T, _, _, e2, e3, e1, rfl, .cons ?_ (.cons r1 .nil)⟩⟩
    have : (0 : Int) + (i : Nat) = (i : Nat) := by omega
    rw [this]
    exact .int _
  have e : vs.length = (enumD 0 ds).length := by rw [enumD_len, r.length]
  rw [e] at w
  exact w
theorem dw_enumT {p : Addr} {S : List Addr} (r : RpA K (hid M H) vs ds) (hq : ∀ H', DG M H S H' → SqT K H' p vs) : DW K M H S (enumD 0 ds) (ItT K p) := by
  have w := (walk_enumT (K := K) (a := p) (xs := vs)).mono (G' := DG M H S) (Y' := DY K M H (enumD 0 ds)) hq fun i H2 x H' hi hg ⟨T, y, z, e1, e2, e3, e4, e5⟩ => by
    obtain ⟨d, e6, r1⟩ := r.get' e5
    cases e4
    refine ⟨_, enumD_get ds 0 i d e6, .inr ⟨T, _, _, e2, e3, e1, rfl, .cons ?_ (.cons r1 .nil)⟩⟩
    have : (0 : Int) + (i : Nat) = (i : Nat) := by omega
    rw [this]
    exact .int _
  have e : vs.length = (enumD 0 ds).length := by rw [enumD_len, r.length]
  rw [e] at w
  exact w
theorem zipD_get : ∀ (xs ys : List D) (i : Nat) (a b : D), xs[i]? = some a → ys[i]? = some b → (zipD xs ys)[i]? = some (.tuple [a, b])
  | x :: r, y :: t, 0, a, b, e1, e2 => by
    simp at e1 e2
    subst e1 e2
    simp [zipD]
  | x :: r, y :: t, i + 1, a, b, e1, e2 => by
    show (zipD r t)[i]? = _
    exact zipD_get r t i a b (by simpa using e1) (by simpa using e2)
theorem zipD_len : ∀ (xs ys : List D), (zipD xs ys).length = min xs.length ys.length
  | [], ys => by simp [zipD]
  | x :: r, [] => by simp [zipD]
  | x :: r, y :: t => by
    show (zipD r t).length + 1 = min (r.length + 1) (t.length + 1)
    rw [zipD_len]
    omega
theorem dw_zip {p q : Addr} {S : List Addr} {us : List V} {es : List D} (r : RpA K (hid M H) vs ds) (r2 : RpA K (hid M H) us es) (hq : ∀ H', DG M H S H' → SqL K H' p vs ∧ SqL K H' q us) : DW K M H S (zipD ds es) (Itz K p q) := by
  have w := (walk_zip (K := K) (a := p) (b := q) (xs := vs) (ys := us) rfl).mono (G' := DG M H S) (Y' := DY K M H (zipD ds es)) hq fun i H2 x H' hi hg ⟨T, y, z, e1, e2, e3, e4, e5⟩ => by
    obtain ⟨d, e6, r1⟩ := r.get' e4
    obtain ⟨d2, e7, r3⟩ := r2.get' e5
    exact ⟨_, zipD_get ds es i d d2 e6 e7, .inr ⟨T, _, _, e2, e3, e1, rfl, .cons r1 (.cons r3 .nil)⟩⟩
  have e : min vs.length us.length = (zipD ds es).length := by rw [zipD_len, r.length, r2.length]
  rw [e] at w
  exact w
theorem walk_zipT {p q : Addr} {xs ys : List V} : Walk (RZ.ItzT K p q) (min xs.length ys.length) (fun H => SqT K H p xs ∧ SqT K H q ys) (YPair (fun i => xs[i]?) (fun i => ys[i]?)) := by
  refine ⟨fun i _ hi q => ?_, fun _ q => ⟨xs, ys, q.1, q.2, by omega⟩, fun i H v H' _ q y => ?_⟩
  · have h1 : i < xs.length := by omega
    have h2 : i < ys.length := by omega
    exact ⟨xs, ys, xs[i], ys[i], q.1, q.2, by simp [h1], by simp [h2]⟩
  · obtain ⟨T, x, z, h1, h2, h3, h4, h5⟩ := y
    exact ⟨T, x, z, h1, h2, h3, h4 xs q.1, h5 ys q.2⟩
theorem dw_zipT {p q : Addr} {S : List Addr} {us : List V} {es : List D} (r : RpA K (hid M H) vs ds) (r2 : RpA K (hid M H) us es) (hq : ∀ H', DG M H S H' → SqT K H' p vs ∧ SqT K H' q us) : DW K M H S (zipD ds es) (RZ.ItzT K p q) := by
  have w := (walk_zipT (K := K) (p := p) (q := q) (xs := vs) (ys := us)).mono (G' := DG M H S) (Y' := DY K M H (zipD ds es)) hq fun i H2 x H' hi hg ⟨T, y, z, e1, e2, e3, e4, e5⟩ => by
    obtain ⟨d, e6, r1⟩ := r.get' e4
    obtain ⟨d2, e7, r3⟩ := r2.get' e5
    exact ⟨_, zipD_get ds es i d d2 e6 e7, .inr ⟨T, _, _, e2, e3, e1, rfl, .cons r1 (.cons r3 .nil)⟩⟩
  have e : min vs.length us.length = (zipD ds es).length := by rw [zipD_len, r.length, r2.length]
  rw [e] at w
  exact w
end
end Pd
end
section
/-! Pd: what a for, a comprehension walks. -/
namespace Pd
open PySem PySem.Spec PyProof.Rows L2
section
variable (g : G) (Φ : Nat → Fn) (Cn : List D) (k : Nat) (sc : Sk)
structure SI (tg it : Expr) (m : Env → M (List D)) (own : Env → Bool) : Prop where
  run : ∀ (X : Cx) (W : WX) (β : Option Addr) (M0 : List Addr) (ms : List (Option Addr)) (H : Hp) (σ : L2.St) (ρ : Env) (s : Bx) (R : L2.It → Hp → Prop), At g Φ Cn k sc X W β M0 ms H σ ρ s →
    PostM X.K X.mg g W σ β (M0 ++ owns ms) H s (m ρ s) (fun xs H1 s1 => ∀ J S, DW X.K (M0 ++ owns ms) H1 S xs J → (∀ a ∈ S, a ∈ M0 ++ owns ms ∧ β ≠ some a) → (own ρ = false → S = []) → R J H1) → wI X tg it σ H R
  fs : ∀ (env : PySem.Env) (x : Value), foldedSetIterable it env x = pure x
end
section
variable {g : G} {Φ : Nat → Fn} {Cn : List D} {k : Nat} {sc : Sk} {X : Cx} {W : WX} {β : Option Addr} {M0 : List Addr} {ms : List (Option Addr)} {H : Hp} {σ : L2.St} {ρ : Env} {s : Bx} {Q R : VK}
variable {tg a b c e : Expr} {ma mb : Env → M D} {oa ob : Env → Bool} {pos p2 p : Pos}
theorem plain_fs (h : plainE e = true) : ∀ (env : PySem.Env) (x : Value), foldedSetIterable e env x = pure x := fun env x => by cases e <;> first | rfl | cases h
theorem wI.of {X : Cx} {tg it : Expr} {t : TI} {σ : L2.St} {H : Hp} {R : L2.It → Hp → Prop} (h : PI X tg it t) (q : t σ H R) : wI X tg it σ H R := ⟨t, h, q⟩
theorem i_ex (ha : SB g Φ Cn k sc a ma oa) : SI g Φ Cn k sc tg a (fun ρ => .bind (ma ρ) fun x => .ofOpt (itemsOf x)) oa := by
  refine ⟨?_, plain_fs ha.pl⟩
  intro X W β M0 ms H σ ρ s R A h
  by_cases hz : ∃ z s1, ma ρ s = .ok (.str z) s1
  · obtain ⟨z, s1, ea⟩ := hz
    refine wI.of (pi_str (wE_pe a)) ?_
    have h1 := h.bind
    refine ha.ex.use A ?_
    rw [ea] at h1 ⊢
    intro H1 e1 v r1 _
    have q := PostM.here (h1 H1 e1) (A.ext e1).box
    cases r1.str
    exact ⟨z, rfl, q _ _ dw_str (fun a z => by cases z) fun _ => rfl⟩
  by_cases hl : ∃ xs s1, ma ρ s = .ok (.tuple xs) s1
  · obtain ⟨xs, s1, ea⟩ := hl
    refine wI.of (pi_tup (wE_pe a)) ?_
    have h1 := h.bind
    refine ha.ex.use A ?_
    rw [ea] at h1 ⊢
    intro H1 e1 v r1 _
    have q := PostM.here (h1 H1 e1) (A.ext e1).box
    obtain ⟨u, vs, rfl, r2, hq⟩ := r1.srcT
    exact ⟨u, rfl, ⟨vs, hq H1 ⟨hid_full, fun a z => by cases z⟩⟩, q _ _ (dw_tup r2 hq) (fun a z => by cases z) fun _ => rfl⟩
  · refine wI.of (pi_list (wE_pe a)) ?_
    have h1 := h.bind
    refine ha.ex.use A ?_
    cases ea : ma ρ s with
    | bad =>
      rw [ea] at h1
      exact h1
    | exc c p s' =>
      rw [ea] at h1
      exact h1
    | ok x s1 =>
      rw [ea] at h1
      intro H1 e1 v r1 r0
      have h2 := h1 H1 e1
      cases x with
      | list xs =>
        have q := PostM.here h2 (A.ext e1).box
        obtain ⟨u, vs, S, rfl, r2, hq, hS, hO⟩ := r1.src (oa ρ) r0
        exact ⟨u, rfl, ⟨vs, hq H1 ⟨hid_full, fun a z => rfl⟩⟩, q _ _ (dw_list r2 hq) hS hO⟩
      | tuple xs => exact (hl ⟨xs, s1, ea⟩).elim
      | str z => exact (hz ⟨z, s1, ea⟩).elim
      | _ => exact h2.elim
theorem inR_ok {i : Int} (h : inR i = true) : -(2 ^ 62) ≤ i ∧ i < 2 ^ 62 := by
  unfold inR at h
  simpa using h
theorem i_rng1 (hf : ("range" : Str) ∈ g.free) (hg : gloB sc.run "range" = true) (ha : SB g Φ Cn k sc a ma oa) : SI g Φ Cn k sc tg (.Call (.Name "range" p) [a] [] pos) (fun ρ => .bind (ma ρ) fun x => .ofOpt (rngD (.int 0) x)) (fun _ => false) := by
  refine ⟨?_, fun _ _ => rfl⟩
  intro X W β M0 ms H σ ρ s R A h
  have st : starEach [a] X.env = [(false, eval a X.env)] := plain_star ha.pl
  refine wI.of (pi_range1 (A.good.glo hg) (A.good.none hf) (pa_cons (wE_pe a) pa_nil st) st) ?_
  refine ha.ex.use A (h.bind.imp fun x H1 s1 e1 h1 v r rz => ?_)
  cases x with
  | int j =>
    have h1 : PostM X.K X.mg g W σ β (M0 ++ owns ms) H1 s1 (Pd.M.ofOpt (if inR 0 && inR j then some (rangeD 0 (j - 0).toNat) else none) s1) _ := h1
    cases hj : inR 0 && inR j with
    | false =>
      rw [hj] at h1
      exact h1.elim
    | true =>
      rw [hj] at h1
      cases r.int
      rw [Bool.and_eq_true] at hj
      obtain ⟨b1, b2⟩ := inR_ok hj.2
      refine ⟨j, rfl, b1, b2, ?_⟩
      have q := PostM.here h1 (A.ext e1).box
      rw [Int.sub_zero] at q
      exact q _ _ dw_range (fun a z => by cases z) fun _ => rfl
  | _ => exact h1.elim
theorem i_rng2 (hf : ("range" : Str) ∈ g.free) (hg : gloB sc.run "range" = true) (ha : SB g Φ Cn k sc a ma oa) (hb : SB g Φ Cn k sc b mb ob) :
    SI g Φ Cn k sc tg (.Call (.Name "range" p) [a, b] [] pos) (fun ρ => .bind (ma ρ) fun x => .bind (mb ρ) fun y => .ofOpt (rngD x y)) (fun _ => false) := by
  refine ⟨?_, fun _ _ => rfl⟩
  intro X W β M0 ms H σ ρ s R A h
  have st2 : starEach [b] X.env = [(false, eval b X.env)] := plain_star hb.pl
  have st : starEach [a, b] X.env = [(false, eval a X.env), (false, eval b X.env)] := by rw [plain_star ha.pl, st2]
  refine wI.of (pi_range2 (A.good.glo hg) (A.good.none hf) (pa_cons (wE_pe a) (pa_cons (wE_pe b) pa_nil st2) (plain_star ha.pl)) st st2) ?_
  refine ha.ex.use A (h.bind.imp fun x H1 s1 e1 h1 v r rz => ?_)
  have A1 := A.ext e1
  refine hb.ex.use A1 (h1.bind.imp fun y H2 s2 e2 h2 u r2 ry => ?_)
  unfold rngD at h2
  split at h2
  · rename_i i j
    cases hj : inR i && inR j with
    | false =>
      rw [hj] at h2
      exact h2.elim
    | true =>
      rw [hj] at h2
      cases r.int
      cases r2.int
      rw [Bool.and_eq_true] at hj
      obtain ⟨b1, b2⟩ := inR_ok hj.1
      obtain ⟨b3, b4⟩ := inR_ok hj.2
      exact ⟨i, j, rfl, ⟨b1, b2, b3, b4⟩, PostM.here h2 (A1.ext e2).box _ _ dw_range (fun a z => by cases z) fun _ => rfl⟩
  · exact h2.elim
theorem i_enum {elts : List Expr} {kk : Nat} {tpos : Pos} (hf : ("enumerate" : Str) ∈ g.free) (hg : gloB sc.run "enumerate" = true) (ha : SB g Φ Cn k sc a ma oa) :
    SI g Φ Cn k sc (.Tuple elts kk tpos) (.Call (.Name "enumerate" p) [a] [] pos) (fun ρ => .bind (ma ρ) fun x => .ofOpt (enmD x)) oa := by
  refine ⟨?_, fun _ _ => rfl⟩
  intro X W β M0 ms H σ ρ s R A h
  have st : starEach [a] X.env = [(false, eval a X.env)] := plain_star ha.pl
  by_cases dd : ∃ xs s1, ma ρ s = .ok (.tuple xs) s1
  · obtain ⟨xs, s1, ex⟩ := dd
    refine wI.of (pi_enumT (A.good.glo hg) (A.good.none hf) (pa_cons (wE_pe a) pa_nil st) st) ?_
    refine ha.ex.use A ?_
    have hb := h.bind
    rw [ex] at hb ⊢
    intro H1 e1 v r r0
    have q := PostM.here (hb H1 e1) (A.ext e1).box
    obtain ⟨u, vs, rfl, r2, hq⟩ := r.srcT
    exact ⟨u, vs, rfl, hq H1 ⟨hid_full, fun a z => rfl⟩, q _ _ (dw_enumT r2 hq) (fun a z => by cases z) fun _ => rfl⟩
  · refine wI.of (pi_enum (A.good.glo hg) (A.good.none hf) (pa_cons (wE_pe a) pa_nil st) st) ?_
    refine ha.ex.use A ?_
    have hb := h.bind
    cases ea : ma ρ s with
    | bad =>
      rw [ea] at hb
      exact hb
    | exc c p s' =>
      rw [ea] at hb
      exact hb
    | ok x s1 =>
      rw [ea] at hb
      intro H1 e1 v r r0
      have h1 := hb H1 e1
      cases x with
      | list xs =>
        have q := PostM.here h1 (A.ext e1).box
        obtain ⟨u, vs, S, rfl, r2, hq, hS, hO⟩ := r.src (oa ρ) r0
        exact ⟨u, vs, rfl, hq H1 ⟨hid_full, fun a z => rfl⟩, q _ _ (dw_enum r2 hq) hS hO⟩
      | tuple xs => exact (dd ⟨xs, s1, ea⟩).elim
      | _ => exact h1.elim
theorem i_zip {elts : List Expr} {kk : Nat} {tpos : Pos} (hf : ("zip" : Str) ∈ g.free) (hg : gloB sc.run "zip" = true) (ha : SB g Φ Cn k sc a ma oa) (hb : SB g Φ Cn k sc b mb ob) :
    SI g Φ Cn k sc (.Tuple elts kk tpos) (.Call (.Name "zip" p) [a, b] [] pos) (fun ρ => .bind (ma ρ) fun x => .bind (mb ρ) fun y => .ofOpt (zippD x y)) (fun ρ => oa ρ || ob ρ) := by
  refine ⟨?_, fun _ _ => rfl⟩
  intro X W β M0 ms H σ ρ s R A h
  have st2 : starEach [b] X.env = (false, eval b X.env) :: starEach [] X.env := plain_star hb.pl
  have st : starEach [a, b] X.env = (false, eval a X.env) :: starEach [b] X.env := plain_star ha.pl
  refine wI.of (RZ.pi_zipA (A.good.glo hg) (A.good.none hf) (pa_cons (wE_pe a) (pa_cons (wE_pe b) pa_nil st2) st) st (by rw [st2]; rfl)) ?_
  refine ha.ex.use A (h.bind.imp fun x H1 s1 e1 h1 v r r0 => ?_)
  have A1 := A.ext e1
  refine hb.ex.use A1 (h1.bind.imp fun y H2 s2 e2 h2 u r2 r20 => ?_)
  have A2 := A1.ext e2
  have r' := r.ext e2.toKept
  have r0' : oa ρ = false → Rp X.K (hid (M0 ++ owns ms) H2) v x := fun z => (r0 z).same e2.same
  cases x with
  | list xs =>
    cases y with
    | list ys =>
      have q := PostM.here h2 A2.box
      obtain ⟨p1, vs, S, rfl, g1, hq, hS, hO⟩ := r'.src (oa ρ) r0'
      obtain ⟨p2, us, S2, rfl, g2, hq2, hS2, hO2⟩ := r2.src (ob ρ) r20
      have hb2 : ∀ H', DG (M0 ++ owns ms) H2 (S ++ S2) H' → SqL X.K H' p1 vs ∧ SqL X.K H' p2 us := fun H' z => ⟨hq H' ⟨z.1, fun a ha => z.2 a (List.mem_append_left _ ha)⟩, hq2 H' ⟨z.1, fun a ha => z.2 a (List.mem_append_right _ ha)⟩⟩
      obtain ⟨z1, z2⟩ := hb2 H2 ⟨hid_full, fun a z => rfl⟩
      refine ⟨p1, p2, vs, us, rfl, .inl ⟨z1, z2, q _ _ (dw_zip g1 g2 hb2) (fun a ha => ?_) fun z => ?_⟩⟩
      · rcases List.mem_append.mp ha with ha | ha
        · exact hS a ha
        · exact hS2 a ha
      · have z : (oa ρ || ob ρ) = false := z
        rw [Bool.or_eq_false_iff] at z
        rw [hO z.1, hO2 z.2]
        rfl
    | _ => exact h2.elim
  | tuple xs =>
    cases y with
    | tuple ys =>
      have q := PostM.here h2 A2.box
      obtain ⟨p1, vs, rfl, g1, hq⟩ := r'.srcT
      obtain ⟨p2, us, rfl, g2, hq2⟩ := r2.srcT
      have hb2 : ∀ H', DG (M0 ++ owns ms) H2 [] H' → SqT X.K H' p1 vs ∧ SqT X.K H' p2 us := fun H' z => ⟨hq H' z, hq2 H' z⟩
      obtain ⟨z1, z2⟩ := hb2 H2 ⟨hid_full, fun a z => by cases z⟩
      exact ⟨p1, p2, vs, us, rfl, .inr ⟨z1, z2, q _ _ (dw_zipT g1 g2 hb2) (fun a z => by cases z) fun _ => rfl⟩⟩
    | _ => exact h2.elim
  | _ => exact h2.elim
end
end Pd
end
section
/-! Pd: comprehensions. -/
namespace Pd
open PySem PySem.Spec PyProof.Rows L2

/-! ### a block's readings, the same for every block -/
abbrev blkX (X : Cx) (scope : Scope) (s : Shared) (H : Hp) (C : Addr) (cl : List (Str × Addr)) (fp : List Addr) : Cx := X.blk s H scope (compEnvC scope cl C X.env) fp
def uE (X : Cx) (scope : Scope) (e : Expr) : TE := fun σ H Q => ∀ s H0 C cl fp, wE (blkX X scope s H0 C cl fp) e σ H Q
def uT (X : Cx) (scope : Scope) (e : Expr) : TT := fun σ H Q => ∀ s H0 C cl fp, wT (blkX X scope s H0 C cl fp) e σ H Q
def uG (X : Cx) (scope : Scope) (e : Expr) : TG := fun v σ H Q => ∀ s H0 C cl fp, wG (blkX X scope s H0 C cl fp) e v σ H Q
def uI (X : Cx) (scope : Scope) (tg it : Expr) : TI := fun σ H Q => ∀ s H0 C cl fp, wI (blkX X scope s H0 C cl fp) tg it σ H Q
theorem uE_pe (X : Cx) (scope : Scope) (e : Expr) (s : Shared) (H : Hp) (C : Addr) (cl : List (Str × Addr)) (fp : List Addr) : PE (blkX X scope s H C cl fp) e (uE X scope e) := ⟨fun pins s1 σ H1 Q I q => (wE_pe e).run pins s1 σ H1 Q I (q s H C cl fp)⟩
theorem uT_pt (X : Cx) (scope : Scope) (e : Expr) (s : Shared) (H : Hp) (C : Addr) (cl : List (Str × Addr)) (fp : List Addr) : PT (blkX X scope s H C cl fp) e (uT X scope e) := ⟨fun pins s1 σ H1 Q I q => (wT_pt e).run pins s1 σ H1 Q I (q s H C cl fp)⟩
theorem uG_pg (X : Cx) (scope : Scope) (e : Expr) (s : Shared) (H : Hp) (C : Addr) (cl : List (Str × Addr)) (fp : List Addr) : PG (blkX X scope s H C cl fp) e (uG X scope e) := ⟨fun pins s1 σ H1 v u Q I r q => (wG_pg e).run pins s1 σ H1 v u Q I r (q s H C cl fp)⟩
theorem uI_pi (X : Cx) (scope : Scope) (tg it : Expr) (s : Shared) (H : Hp) (C : Addr) (cl : List (Str × Addr)) (fp : List Addr) : PI (blkX X scope s H C cl fp) tg it (uI X scope tg it) := ⟨fun pins s1 σ H1 R I q => (wI_pi tg it).run pins s1 σ H1 R I (q s H C cl fp)⟩
/-- a clause's tests: none, one -/
inductive SC (g : G) (Φ : Nat → Fn) (Cn : List D) (k : Nat) (sc : Sk) : List Expr → (Env → M Bool) → Prop
  | no : SC g Φ Cn k sc [] (fun _ => .pure true)
  | so {e : Expr} {m : Env → M D} {o : Env → Bool} : SB g Φ Cn k sc e m o → SC g Φ Cn k sc [e] (fun ρ => trM (m ρ))
def uC (X : Cx) (scope : Scope) : List Expr → TT
  | [] => tYes
  | [e] => uT X scope e
  | _ => fun _ _ _ => False
theorem uC_pt (X : Cx) (scope : Scope) (s : Shared) (H : Hp) (C : Addr) (cl : List (Str × Addr)) (fp : List Addr) : ∀ es : List Expr, PTs (blkX X scope s H C cl fp) es (uC X scope es)
  | [] => pts_nil
  | [e] => pts_one (uT_pt X scope e s H C cl fp)
  | _ :: _ :: _ => ⟨fun _ _ _ _ _ _ h => h.elim⟩
abbrev noW : WX := fun _ _ _ _ => False
abbrev bSk (sc : Sk) (scope : Scope) : Sk := ⟨relS scope sc.run, scope, false⟩

section
variable {g : G} {Φ : Nat → Fn} {Cn : List D} {k : Nat} {sc : Sk} {X : Cx} {W : WX} {β : Option Addr} {M0 : List Addr} {ms : List (Option Addr)} {H H' : Hp} {σ : L2.St} {ρ : Env} {s s' : Bx} {Q R : VK} {scope : Scope}
theorem blk_good (A : Good g Φ Cn k sc X W) (scope : Scope) (s : Shared) (H : Hp) (C : Addr) (cl : List (Str × Addr)) (fp : List Addr) : Good g Φ Cn k (bSk sc scope) (blkX X scope s H C cl fp) noW := by
  refine ⟨⟨A.gf.fn, A.gf.lenF, A.gf.con, A.gf.free, A.gf.er, A.gf.exm, A.gf.bxs⟩, A.nm, A.nd, ?_, A.calm, A.room, ?_, PassesOwn.never, (fun z => absurd (show false = true from z) Bool.false_ne_true), ?_⟩
  · show relS scope X.env.scope = _
    rw [A.sc_]
  · rintro u s' ⟨_, _, _, _, _, _, _, _, _, _, _, _, _, _, _, _, w⟩
    exact w
  · intro x h
    have keep := fun (kd : NameKind) (hk : kd ≠ .free) (e : scope.names.lookup x = some kd) => lookup_relS_keep (sc := sc.run) hk e
    unfold stoB at h
    split at h
    · rename_i e
      have e1 := keep .local (by decide) e
      exact ⟨.inl e1, .inr e1⟩
    · rename_i e
      have e1 := keep .cell (by decide) e
      refine ⟨.inr e1, .inl ?_⟩
      show (scope.names.lookup x == some .cell) = true
      rw [e]
      rfl
    · cases h
/-- in every block -/
def BAt (g : G) (Φ : Nat → Fn) (Cn : List D) (k : Nat) (sc : Sk) (X : Cx) (scope : Scope) (β : Option Addr) (M0 : List Addr) (ms : List (Option Addr)) (H : Hp) (σ : L2.St) (ρ : Env) (s : Bx) : Prop :=
  ∀ s0 H0 C cl fp, At g Φ Cn k (bSk sc scope) (blkX X scope s0 H0 C cl fp) noW β M0 ms H σ ρ s
theorem BAt.of (A : Good g Φ Cn k sc X W) (r : SRel X.K β M0 ms H σ ρ) (b : BoxAt β H s) (l : Live M0 H) (n : ∀ b, β = some b → b ∈ M0) : BAt g Φ Cn k sc X scope β M0 ms H σ ρ s := fun s0 H0 C cl fp => ⟨blk_good A scope s0 H0 C cl fp, r, b, l, n⟩
theorem At.bat {s0 : Shared} {H0 : Hp} {C : Addr} {cl : List (Str × Addr)} {fp : List Addr} (G' : Good g Φ Cn k sc X W) (A : At g Φ Cn k (bSk sc scope) (blkX X scope s0 H0 C cl fp) noW β M0 ms H σ ρ s) : BAt g Φ Cn k sc X scope β M0 ms H σ ρ s :=
  fun s0 H0 C cl fp => ⟨blk_good G' scope s0 H0 C cl fp, A.rel, A.box, A.live, A.bin⟩
theorem BAt.ext (A : BAt g Φ Cn k sc X scope β M0 ms H σ ρ s) (e : Ext β (M0 ++ owns ms) H s H' s') : BAt g Φ Cn k sc X scope β M0 ms H' σ ρ s' := fun s0 H0 C cl fp => (A s0 H0 C cl fp).ext e
/-- one block for looking -/
theorem BAt.one (A : BAt g Φ Cn k sc X scope β M0 ms H σ ρ s) (s0 : Shared) : At g Φ Cn k (bSk sc scope) (blkX X scope s0 H 0 [] []) noW β M0 ms H σ ρ s := A s0 H 0 [] []
theorem uE_use {e : Expr} {m : Env → M D} {o : Env → Bool} {d : D} (h : SB g Φ Cn k (bSk sc scope) e m o) (A : BAt g Φ Cn k sc X scope β M0 ms H σ ρ s) (em : m ρ s = .ok d s') (eo : o ρ = false)
    (q : ∀ v H', Ext β (M0 ++ owns ms) H s H' s' → Rp X.K (hid (M0 ++ owns ms) H') v d → R v H') : uE X scope e σ H R := fun s0 H0 C cl fp => by
  refine h.ex.use (A s0 H0 C cl fp) ?_
  rw [em]
  exact fun H' x v _ r => q v H' x (r eo)
theorem uC_use {es : List Expr} {m : Env → M Bool} {b : Bool} {R : Bool → Hp → Prop} (h : SC g Φ Cn k (bSk sc scope) es m) (A : BAt g Φ Cn k sc X scope β M0 ms H σ ρ s) (bx : BoxAt β H s) (em : m ρ s = .ok b s')
    (q : ∀ H', Ext β (M0 ++ owns ms) H s H' s' → R b H') : uC X scope es σ H R := by
  cases h with
  | no =>
    cases em
    exact q H (Ext.refl bx)
  | so h =>
    intro s0 H0 C cl fp
    refine h.ts.use (A s0 H0 C cl fp) ?_
    have em : trM _ s = .ok b s' := em
    unfold trM at em
    rw [em]
    exact fun H' x => q H' x

/-! ### the new list's address -/
theorem Ext.less {M : List Addr} {D : Addr} (e : Ext β (D :: M) H s H' s') (hb : β ≠ some D) : Ext β M H s H' s' := by
  refine ⟨⟨fun a u h => ?_, fun a ha hn => e.keep a (List.mem_cons_of_mem _ ha) hn⟩, e.box⟩
  obtain ⟨h1, h2⟩ := hid_some.mp h
  by_cases ea : a = D
  · subst ea
    exact hid_some.mpr ⟨h1, (e.keep a List.mem_cons_self hb).trans h2⟩
  · have := e.same a u (hid_some.mpr ⟨fun z => (List.mem_cons.mp z).elim ea h1, h2⟩)
    exact hid_some.mpr ⟨h1, (hid_some.mp this).2⟩
theorem Ext.updD {M : List Addr} {D : Addr} {o : HO} (e : Ext β M H s H' s') (hD : H D = none) (lv : Live M H) (hb : β ≠ some D) : Ext β M H s (upd H' D o) s' := by
  refine ⟨⟨fun a u h => ?_, fun a ha hn => ?_⟩, ?_⟩
  · obtain ⟨h1, h2⟩ := hid_some.mp h
    have ne : a ≠ D := fun z => by rw [z, hD] at h2; cases h2
    refine hid_some.mpr ⟨h1, ?_⟩
    rw [upd_ne ne]
    exact (hid_some.mp (e.same a u h)).2
  · have ne : a ≠ D := fun z => by
      obtain ⟨u, h2⟩ := lv a ha
      rw [z, hD] at h2
      cases h2
    rw [upd_ne ne]
    exact e.keep a ha hn
  · have q := e.box
    cases β with
    | none => trivial
    | some c =>
      have q : H' c = some (.lst [.int s'.a, .int s'.b, .int s'.c]) := q
      have ne : c ≠ D := fun z => hb (congrArg some z)
      show upd H' D o c = _
      rw [upd_ne ne]
      exact q
theorem same_D {M : List Addr} {D : Addr} (e : Ext β M H s H' s') (hD : H D = none) : Same (hid M H) (hid (D :: M) H') := fun a u h => by
  obtain ⟨h1, h2⟩ := hid_some.mp h
  have ne : a ≠ D := fun z => by rw [z, hD] at h2; cases h2
  exact hid_some.mpr ⟨fun z => (List.mem_cons.mp z).elim ne h1, (hid_some.mp (e.same a u h)).2⟩
theorem hid_upd {M : List Addr} {D : Addr} {o : HO} : hid (D :: M) (upd H D o) = hid (D :: M) H := by
  funext a
  unfold hid
  by_cases h : a ∈ D :: M
  · rw [if_pos h, if_pos h]
  · rw [if_neg h, if_neg h, upd_ne fun z => h (by rw [z]; exact List.mem_cons_self)]
theorem box_ne {D : Addr} (b : BoxAt β H s) (hD : H D = none) : β ≠ some D := fun z => by
  rw [z] at b
  have b : H D = some (.lst [.int s.a, .int s.b, .int s.c]) := b
  rw [hD] at b
  cases b
/-- the slots of the block -/
theorem anyOwn_no {ρ : Env} : ∀ {own : List Nat}, anyOwn ρ own = false → ∀ i ∈ own, isOwn ρ (.slot i) = false
  | [], _, i, hi => by cases hi
  | j :: r, h, i, hi => by
    have h : (isOwn ρ (.slot j) || anyOwn ρ r) = false := h
    rw [Bool.or_eq_false_iff] at h
    rcases List.mem_cons.mp hi with rfl | hi
    · exact h.1
    · exact anyOwn_no h.2 i hi
theorem wipeE_len : ∀ (own : List Nat) (ρ : Env), (wipeE ρ own).length = ρ.length
  | [], _ => rfl
  | i :: r, ρ => by
    show (wipeE (ρ.set i .un) r).length = _
    rw [wipeE_len r, List.length_set]
theorem wipeE_get : ∀ (own : List Nat) (ρ : Env) (j : Nat) (sl : Slot), (wipeE ρ own)[j]? = some sl → (j ∈ own ∧ sl = .un ∧ j < ρ.length) ∨ (j ∉ own ∧ ρ[j]? = some sl)
  | [], ρ, j, sl, e => .inr ⟨(fun z => by cases z), e⟩
  | i :: r, ρ, j, sl, e => by
    have e : (wipeE (ρ.set i .un) r)[j]? = some sl := e
    rcases wipeE_get r _ j sl e with ⟨h1, h2, h3⟩ | ⟨h1, h2⟩
    · exact .inl ⟨List.mem_cons_of_mem _ h1, h2, by simpa using h3⟩
    · rcases set_cases h2 with ⟨rfl, lt, e2⟩ | ⟨ne, e2⟩
      · exact .inl ⟨List.mem_cons_self, e2, lt⟩
      · exact .inr ⟨fun z => (List.mem_cons.mp z).elim (fun q => ne q.symm) h1, e2⟩
theorem own_ms (S : SRel X.K β M0 ms H σ ρ) {i : Nat} (h : isOwn ρ (.slot i) = false) : ∀ p, ms[i]? ≠ some (some p) := fun p e => by
  have lt : i < ms.length := (List.getElem?_eq_some_iff.mp e).1
  rw [S.mlen] at lt
  have q := S.at_ i _ (List.getElem?_eq_getElem lt)
  unfold isOwn at h
  rw [List.getElem?_eq_getElem lt] at h
  generalize ρ[i] = sl at q h
  cases sl with
  | un =>
    have q : ms[i]? = some none := q
    rw [e] at q
    cases q
  | dat d =>
    have q := q.1
    rw [e] at q
    cases q
  | scr ns =>
    have q := q.1
    rw [e] at q
    cases q
  | own ds => cases h
  | box =>
    have q := q.1
    rw [e] at q
    cases q
theorem SRel.blk {D : Addr} {own : List Nat} (S : SRel X.K β M0 ms H σ ρ) (ho : anyOwn ρ own = false) (e : Ext β (M0 ++ owns ms) H s H' s') (hD : H D = none) : SRel X.K β (D :: M0) ms H' (wipe σ own) (wipeE ρ own) := by
  refine ⟨by rw [wipe_length, wipeE_len, S.len], fun j sl ej => ?_, by rw [wipeE_len, S.mlen], S.nd, fun p hp => ⟨fun z => ?_, (S.ap p hp).2⟩⟩
  · rcases wipeE_get own ρ j sl ej with ⟨h1, rfl, h3⟩ | ⟨h1, h2⟩
    · have nn := own_ms S (anyOwn_no ho j h1)
      show ms[j]? = some none
      have lt : j < ms.length := by
        rw [S.mlen]
        exact h3
      rw [List.getElem?_eq_getElem lt]
      cases q : ms[j] with
      | none => rfl
      | some p => exact (nn p (by rw [List.getElem?_eq_getElem lt, q])).elim
    · have q := S.at_ j sl h2
      rw [wipe_out h1]
      cases sl with
      | un => exact q
      | dat d =>
        obtain ⟨q1, v, q2, q3⟩ := q
        exact ⟨q1, v, q2, q3.same (same_D e hD)⟩
      | scr ns =>
        obtain ⟨q1, v, q2, q3⟩ := q
        exact ⟨q1, v, q2, q3.same (same_D e hD)⟩
      | own ds =>
        obtain ⟨p, vs, q1, q2, q3, q4⟩ := q
        exact ⟨p, vs, q1, q2, (e.keep p (List.mem_append_right _ (mem_owns q1)) (S.ap p (mem_owns q1)).2).trans q3, q4.same (same_D e hD)⟩
      | box => exact q
  · rcases List.mem_cons.mp z with rfl | z
    · obtain ⟨vs, e1⟩ := S.ownLst hp
      rw [hD] at e1
      cases e1
    · exact (S.ap p hp).1 z
theorem wipe_idem {σ : L2.St} : ∀ (vs : List Nat), wipe (wipe σ vs) vs = wipe σ vs := fun vs => by
  apply List.ext_getElem?
  intro j
  by_cases h : j ∈ vs
  · by_cases hl : j < σ.length
    · rw [wipe_in h (by rw [wipe_length]; exact hl), wipe_in h hl]
    · rw [List.getElem?_eq_none (by rw [wipe_length, wipe_length]; omega), List.getElem?_eq_none (by rw [wipe_length]; omega)]
  · rw [wipe_out h]
where wipe_in {σ : L2.St} {j : Nat} : ∀ {vs : List Nat}, j ∈ vs → j < σ.length → (wipe σ vs)[j]? = some none
  | v :: vs, h, hl => by
    show ((wipe σ vs).set v none)[j]? = _
    by_cases e : v = j
    · subst e
      rw [List.getElem?_set_self (by rw [wipe_length]; exact hl)]
    · rw [List.getElem?_set_ne e]
      exact wipe_in ((List.mem_cons.mp h).elim (fun q => absurd q.symm e) id) hl
end
end Pd
end
section
/-! Pd: list comprehensions, one clause. -/
namespace Pd
open PySem PySem.Spec PyProof.Rows L2
section
variable {g : G} {Φ : Nat → Fn} {Cn : List D} {k : Nat} {sc : Sk} {X : Cx} {W : WX} {β : Option Addr} {M0 : List Addr} {ms : List (Option Addr)} {H H' : Hp} {σ : L2.St} {ρ : Env} {s s' : Bx} {Q R : VK} {scope : Scope}
/-- the new list as it stands -/
structure LS (K : PySem.W.Frag) (β : Option Addr) (M : List Addr) (H1 : Hp) (s1 : Bx) (D : Addr) (pre : List PyData) (H : Hp) (s : Bx) (acc : List V) : Prop where
  ext : Ext β M H1 s1 H s
  at_ : H D = some (.lst acc)
  rp : RpA K (hid (D :: M) H) acc pre
theorem LS.zero {M : List Addr} {D : Addr} (b : BoxAt β H s) (hD : H D = none) (lv : Live M H) : LS X.K β M H s D [] (upd H D (.lst [])) s [] :=
  ⟨Ext.new b lv hD, upd_same, .nil⟩
/-- through expressions of the block -/
theorem LS.step {M : List Addr} {H1 : Hp} {s1 : Bx} {D : Addr} {pre : List PyData} {acc : List V} (L : LS X.K β M H1 s1 D pre H s acc) (hb : β ≠ some D) (e : Ext β (D :: M) H s H' s') : LS X.K β M H1 s1 D pre H' s' acc :=
  ⟨L.ext.trans (e.less hb), (e.keep D List.mem_cons_self hb).trans L.at_, L.rp.same e.same⟩
/-- an item more -/
theorem LS.add {M : List Addr} {H1 : Hp} {s1 : Bx} {D : Addr} {pre : List PyData} {acc : List V} {v : V} {d : PyData} (L : LS X.K β M H1 s1 D pre H s acc) (hD : H1 D = none) (lv : Live M H1) (hb : β ≠ some D) (r : Rp X.K (hid (D :: M) H) v d) :
    LS X.K β M H1 s1 D (pre ++ [d]) (upd H D (.lst (acc ++ [v]))) s (acc ++ [v]) :=
  ⟨L.ext.updD hD lv hb, upd_same, by rw [hid_upd]; exact RpA.app L.rp (.cons r .nil)⟩
/-- a turn's value, in the block's heap -/
theorem LS.turn {M : List Addr} {H1 : Hp} {s1 : Bx} {D : Addr} {pre : List PyData} {acc : List V} {Hb : Hp} {S : List Addr} {i : Nat} {v : V} {xs : List PyData} (L : LS X.K β M H1 s1 D pre H s acc) (lv : Live (D :: M) H) (hb : β ≠ some D)
    (sm : Same (hid (D :: M) Hb) (hid (D :: M) H)) (y : DY X.K (D :: M) Hb xs i H v H') : ∃ d, xs[i]? = some d ∧ Ext β (D :: M) H s H' s ∧ LS X.K β M H1 s1 D pre H' s acc ∧ Rp X.K (hid (D :: M) H') v d := by
  obtain ⟨d, ed, y⟩ := y
  rcases y with ⟨rfl, r⟩ | ⟨T, ys, es, hT, rfl, rfl, rfl, r⟩
  · exact ⟨d, ed, Ext.refl L.ext.box, L, r.same sm⟩
  · have e := Ext.new (o := .tup ys) L.ext.box lv hT
    exact ⟨_, ed, e, L.step hb e, new_tup lv hT (r.same sm)⟩
theorem mb_ok {α γ : Type} {m : Pd.M α} {f : α → Pd.M γ} {s s' : Bx} {c : γ} (h : Pd.M.bind m f s = .ok c s') : ∃ a s1, m s = .ok a s1 ∧ f a s1 = .ok c s' := by
  unfold Pd.M.bind at h
  cases e : m s with
  | bad =>
    rw [e] at h
    cases h
  | exc c p s1 =>
    rw [e] at h
    cases h
  | ok a s1 =>
    rw [e] at h
    exact ⟨a, s1, rfl, h⟩
theorem quiet_ok {α : Type} {m : Pd.M α} {f : α → Pd.M D} {K : PySem.W.Frag} {mg : Str → Option Value} {M : List Addr} {own : Bool} (h : PostE K mg g W σ β M H s own (Pd.M.bind (Pd.M.quiet m) f s) Q) : ∃ a s1, m s = .ok a s1 ∧ PostE K mg g W σ β M H s own (f a s1) Q := by
  unfold Pd.M.bind Pd.M.quiet at h
  cases e : m s with
  | bad =>
    rw [e] at h
    exact h.elim
  | exc c p s1 =>
    rw [e] at h
    exact h.elim
  | ok a s1 =>
    rw [e] at h
    exact ⟨a, s1, rfl, h⟩
theorem collect_len {f : D → M (Option D)} : ∀ {xs : List D} {s s' : Bx} {ys : List D}, collect f xs s = .ok ys s' → ys.length ≤ xs.length
  | [], s, s', ys, h => by
    cases h
    exact Nat.le_refl _
  | x :: r, s, s', ys, h => by
    obtain ⟨y, s1, h1, h⟩ := mb_ok h
    obtain ⟨zs, s2, h2, h⟩ := mb_ok h
    have := collect_len h2
    cases h
    cases y with
    | none => exact Nat.le_succ_of_le this
    | some d => exact Nat.succ_le_succ this
/-- the block's turn -/
theorem turn_core {tg : Tg} {tgE e : Expr} {ifs : List Expr} {own : List Nat} {mc : Env → M Bool} {me : Env → M PyData} {oe : Env → Bool} {D : Addr} {H1 : Hp} {s1 : Bx} {pre : List PyData} {acc : List V} {v : V} {d : PyData} {y : Option PyData} {Nx : Hp → Prop}
    (ok : tgOk g (bSk sc scope) tg tgE = true) (sub : ∀ i ∈ tgSlots tg, i ∈ own) (hc : SC g Φ Cn k (bSk sc scope) ifs mc) (he : SB g Φ Cn k (bSk sc scope) e me oe) (G' : Good g Φ Cn k sc X W)
    (B : BAt g Φ Cn k sc X scope β (D :: M0) ms H (wipe σ own) (wipeE ρ own) s) (nn : ∀ i ∈ tgSlots tg, ∀ p, ms[i]? ≠ some (some p)) (hb : β ≠ some D) (lv1 : Live (M0 ++ owns ms) H1) (hD : H1 D = none) (L : LS X.K β (M0 ++ owns ms) H1 s1 D pre H s acc) (r : Rp X.K (hid (D :: (M0 ++ owns ms)) H) v d)
    (ef : turnF tg own mc me oe ρ d s = .ok y s') (lim_ : (pre ++ y.toList).length ≤ lim)
    (nx : ∀ acc' H2 H', Ext β (D :: (M0 ++ owns ms)) H s H2 s' → (H' = H2 ∨ ∃ o, H' = upd H2 D o) → LS X.K β (M0 ++ owns ms) H1 s1 D (pre ++ y.toList) H' s' acc' → Nx H') :
    uG X scope tgE v (wipe σ own) H fun σ2 H2 => wipe σ2 own = wipe σ own ∧ uC X scope ifs σ2 H2 fun b H3 => if b = true then uE X scope e σ2 H3 fun y H4 => ∃ acc, H4 D = some (.lst acc) ∧ acc.length < sizeLine ∧ Nx (upd H4 D (.lst (acc ++ [y]))) else Nx H3 := by
  unfold turnF at ef
  obtain ⟨ρ', s2, e1, ef⟩ := mb_ok ef
  obtain ⟨b, s3, e2, ef⟩ := mb_ok ef
  intro s0 H0 C cl fp
  refine (tg_run ok (B s0 H0 C cl fp) e1 r fun ms' σ' A' _ hn hw => ⟨(hw own sub).trans (wipe_idem own), ?_⟩).2
  have em := hn nn
  subst em
  have es : s2 = s := (tg_run (Q := fun _ _ => True) ok (B s0 H0 C cl fp) e1 r fun _ _ _ _ _ _ => trivial).1
  subst es
  have B' : BAt g Φ Cn k sc X scope β (D :: M0) ms' H σ' ρ' s2 := A'.bat G'
  refine uC_use hc B' L.ext.box e2 fun H3 x3 => ?_
  have L3 := L.step hb x3
  cases b with
  | false =>
    cases ef
    refine nx acc H3 H3 x3 (.inl rfl) ?_
    simp only [Option.toList, List.append_nil]
    exact L3
  | true =>
    rw [if_pos rfl]
    rw [if_pos rfl] at ef
    cases eo : oe ρ' with
    | true =>
      rw [eo] at ef
      cases ef
    | false =>
      rw [eo] at ef
      obtain ⟨yd, s4, e4, ef⟩ := mb_ok ef
      cases ef
      refine uE_use he (B'.ext x3) e4 eo fun v2 H4 x4 r4 => ?_
      have L4 := L3.step hb x4
      refine ⟨acc, L4.at_, ?_, nx _ H4 _ (x3.trans x4) (.inr ⟨_, rfl⟩) (L4.add hD lv1 hb r4)⟩
      have h1 : acc.length = pre.length := L4.rp.length
      have h2 : (pre ++ [yd]).length ≤ lim := lim_
      rw [List.length_append] at h2
      have h3 : lim = sizeLine := rfl
      simp only [List.length_cons, List.length_nil] at h2
      omega
theorem turn_run {tg : Tg} {tgE e : Expr} {ifs : List Expr} {own : List Nat} {mc : Env → M Bool} {me : Env → M PyData} {oe : Env → Bool} {D : Addr} {H1 : Hp} {s1 : Bx} {pre : List PyData} {acc : List V} {v : V} {d : PyData} {y : Option PyData} {Nx : Hp → Prop}
    (ok : tgOk g (bSk sc scope) tg tgE = true) (sub : ∀ i ∈ tgSlots tg, i ∈ own) (hc : SC g Φ Cn k (bSk sc scope) ifs mc) (he : SB g Φ Cn k (bSk sc scope) e me oe)
    (A1 : At g Φ Cn k sc X W β M0 ms H1 σ ρ s1) (ho : anyOwn ρ own = false) (hD : H1 D = none) (L : LS X.K β (M0 ++ owns ms) H1 s1 D pre H s acc) (r : Rp X.K (hid (D :: (M0 ++ owns ms)) H) v d)
    (ef : turnF tg own mc me oe ρ d s = .ok y s') (lim_ : (pre ++ y.toList).length ≤ lim)
    (nx : ∀ acc' H', LS X.K β (M0 ++ owns ms) H1 s1 D (pre ++ y.toList) H' s' acc' → Nx H') :
    uG X scope tgE v (wipe σ own) H fun σ2 H2 => wipe σ2 own = wipe σ own ∧ uC X scope ifs σ2 H2 fun b H3 => if b = true then uE X scope e σ2 H3 fun y H4 => ∃ acc, H4 D = some (.lst acc) ∧ acc.length < sizeLine ∧ Nx (upd H4 D (.lst (acc ++ [y]))) else Nx H3 := by
  have S := A1.rel.blk ho L.ext hD
  have lvD : Live (D :: M0) H := fun a ha => by
    rcases List.mem_cons.mp ha with rfl | ha
    · exact ⟨_, L.at_⟩
    · exact L.ext.live A1.liveA a (List.mem_append_left _ ha)
  have B : BAt g Φ Cn k sc X scope β (D :: M0) ms H (wipe σ own) (wipeE ρ own) s := BAt.of A1.good S L.ext.box lvD fun b e => List.mem_cons_of_mem _ (A1.bin b e)
  exact turn_core ok sub hc he A1.good B (fun i hi => own_ms A1.rel (anyOwn_no ho i (sub i hi))) (box_ne A1.box hD) A1.liveA hD L r ef lim_ fun acc' _ H' _ _ L' => nx acc' H' L'
/-- the comprehension's reading -/
theorem comp_core {tg : Tg} {tgE it e : Expr} {ifs : List Expr} {own : List Nat} {mi : Env → M (List D)} {oi : Env → Bool} {mc : Env → M Bool} {me : Env → M PyData} {oe : Env → Bool}
    (hi : SI g Φ Cn k sc tgE it mi oi) (ok : tgOk g (bSk sc scope) tg tgE = true) (sub : ∀ i ∈ tgSlots tg, i ∈ own) (hc : SC g Φ Cn k (bSk sc scope) ifs mc) (he : SB g Φ Cn k (bSk sc scope) e me oe)
    (A : At g Φ Cn k sc X W β M0 ms H σ ρ s)
    (h : PostE X.K X.mg g W σ β (M0 ++ owns ms) H s false (Pd.M.bind (mi ρ) (fun xs => if anyOwn ρ own then .bad else .bind (M.quiet (collect (turnF tg own mc me oe ρ) xs)) ckLim) s) Q) :
    tLc (wI X tgE it) (uG X scope tgE) (uC X scope ifs) (uE X scope e) own σ H Q := by
  refine hi.run X W β M0 ms H σ ρ s _ A ((PostE.bind h).imp fun xs H1 s1 e1 h1 J S dw hS hO D hD => ?_)
  have A1 := A.ext e1
  cases ho : anyOwn ρ own with
  | true =>
    rw [ho] at h1
    exact h1.elim
  | false =>
    rw [ho] at h1
    obtain ⟨ys, se, ec, h2⟩ := quiet_ok h1
    unfold ckLim at h2
    by_cases hl : ys.length ≤ lim
    · rw [if_pos hl] at h2
      have hb : β ≠ some D := box_ne A1.box hD
      have lvD : ∀ {H s' pre acc}, LS X.K β (M0 ++ owns ms) H1 s1 D pre H s' acc → Live (D :: (M0 ++ owns ms)) H := fun {H s' pre acc} L a ha => by
        rcases List.mem_cons.mp ha with rfl | ha
        · exact ⟨_, L.at_⟩
        · exact L.ext.live A1.liveA a ha
      have up : ∀ {H s' pre acc}, LS X.K β (M0 ++ owns ms) H1 s1 D pre H s' acc → Same (hid (M0 ++ owns ms) H1) (hid (D :: (M0 ++ owns ms)) H) := fun {H s' pre acc} L => same_D L.ext hD
      refine lc_it dw (fun i H => ∃ s' acc pre rest, LS X.K β (M0 ++ owns ms) H1 s1 D pre H s' acc ∧ collect (turnF tg own mc me oe ρ) (xs.drop i) s' = .ok rest se ∧ pre ++ rest = ys)
        ⟨s1, [], [], ys, LS.zero (X := X) A1.box hD A1.liveA, by simpa using ec, rfl⟩ (fun i H hi' ⟨s', acc, pre, rest, L, _, _⟩ => ⟨fun a u z => ?_, fun a ha => ?_⟩) (fun i x H H' hi' ⟨s', acc, pre, rest, L, er, ey⟩ y => ?_) fun H ⟨s', acc, pre, rest, L, er, ey⟩ => ?_
      · exact (hid_some.mp (L.ext.same a u z)).2
      · exact L.ext.keep a (hS a ha).1 (hS a ha).2
      · obtain ⟨d, ed, yy⟩ := y
        have up2 := up L
        have T : ∃ H0, H0 = H ∧ Ext β (D :: (M0 ++ owns ms)) H s' H' s' ∧ LS X.K β (M0 ++ owns ms) H1 s1 D pre H' s' acc ∧ Rp X.K (hid (D :: (M0 ++ owns ms)) H') x d := by
          rcases yy with ⟨rfl, r⟩ | ⟨T, us, es, hT, rfl, rfl, rfl, r⟩
          · exact ⟨_, rfl, Ext.refl L.ext.box, L, r.same up2⟩
          · have e := Ext.new (o := .tup us) L.ext.box (lvD L) hT
            exact ⟨_, rfl, e, L.step hb e, new_tup (lvD L) hT (r.same up2)⟩
        obtain ⟨_, _, x1, L1, r1⟩ := T
        have edrop : xs.drop i = d :: xs.drop (i + 1) := by
          have lt : i < xs.length := hi'
          rw [List.drop_eq_getElem_cons lt]
          have := List.getElem?_eq_getElem lt
          rw [ed] at this
          rw [Option.some.inj this]
        rw [edrop] at er
        obtain ⟨y, s2, ef, er⟩ := mb_ok er
        obtain ⟨rest', s3, er2, er⟩ := mb_ok er
        cases er
        refine turn_run ok sub hc he A1 ho hD L1 r1 ef ?_ fun acc' H2 L2 => ⟨s2, acc', pre ++ y.toList, rest', L2, er2, ?_⟩
        · rw [← ey] at hl
          cases y with
          | none => simp at hl ⊢; omega
          | some d => simp at hl ⊢; omega
        · rw [← ey]
          cases y <;> simp
      · have ed : xs.drop xs.length = [] := List.drop_length
        rw [ed] at er
        cases er
        rw [List.append_nil] at ey
        subst ey
        have nD : D ∉ M0 ++ owns ms := fun z => by
          obtain ⟨u, e⟩ := A1.liveA D z
          rw [hD] at e
          cases e
        have rr : Rp X.K (hid (M0 ++ owns ms) H) (.ref D) (.list pre) := .lst (hid_some.mpr ⟨nD, L.at_⟩) (L.rp.same (hid_le fun a ha => List.mem_cons_of_mem _ ha))
        exact h2 _ _ L.ext (.rp rr) fun _ => rr
    · rw [if_neg hl] at h2
      exact h2.elim
theorem b_comp {tg : Tg} {tgE it e : Expr} {ifs : List Expr} {own : List (Str × Nat)} {mi : Env → M (List D)} {oi : Env → Bool} {mc : Env → M Bool} {me : Env → M PyData} {oe : Env → Bool} {pos : Pos}
    (hi : SI g Φ Cn k sc tgE it mi oi) (bl : blkC g.N sc.run scope own = true) (ok : tgOk g (bSk sc scope) tg tgE = true) (sub : ∀ i ∈ tgSlots tg, i ∈ own.map (·.2)) (hc : SC g Φ Cn k (bSk sc scope) ifs mc) (he : SB g Φ Cn k (bSk sc scope) e me oe) :
    SB g Φ Cn k sc (.ListComp e [⟨tgE, it, ifs, 0⟩] scope pos) (fun ρ => .bind (mi ρ) fun xs => if anyOwn ρ (own.map (·.2)) then .bad else .bind (M.quiet (collect (turnF tg (own.map (·.2)) mc me oe ρ) xs)) ckLim) (fun _ => false) := by
  refine .of rfl ?_
  intro X W β M0 ms H σ ρ s Q A h
  have bo := blkOk_by bl
  rw [← A.good.nm, ← A.good.sc_] at bo
  exact wE.of (pe_lc A.good.calm A.good.nd (wI_pi tgE it) bo (fun s H C cl fp => uG_pg X scope tgE s H C cl fp) (fun s H C cl fp => uC_pt X scope s H C cl fp ifs) (fun s H C cl fp => uE_pe X scope e s H C cl fp) fun x => hi.fs _ x) (comp_core hi ok sub hc he A h)
end
end Pd
end
section
/-! Pd: statements. -/
namespace Pd
open PySem PySem.Spec PyProof.Rows L2

/-- from a state to a later one of the same frame -/
structure Step (β : Option Addr) (M0 : List Addr) (ms : List (Option Addr)) (H : Hp) (ms' : List (Option Addr)) (H' : Hp) : Prop where
  same : Same (hid (M0 ++ owns ms) H) (hid (M0 ++ owns ms') H')
  keep : ∀ a ∈ M0, β ≠ some a → H' a = H a
section
variable {β : Option Addr} {M0 : List Addr} {ms ms1 ms2 : List (Option Addr)} {H H1 H2 : Hp} {s s1 : Bx}
theorem Step.refl : Step β M0 ms H ms H := ⟨Same.refl _, fun _ _ _ => rfl⟩
theorem Step.trans (a : Step β M0 ms H ms1 H1) (b : Step β M0 ms1 H1 ms2 H2) : Step β M0 ms H ms2 H2 := ⟨a.same.trans b.same, fun x hx hb => (b.keep x hx hb).trans (a.keep x hx hb)⟩
theorem Step.ext (e : Ext β (M0 ++ owns ms) H s H1 s1) : Step β M0 ms H ms H1 := ⟨e.same, fun a ha hb => e.keep a (List.mem_append_left _ ha) hb⟩
theorem Step.fewer (h : (owns ms1).Sublist (owns ms)) : Step β M0 ms H ms1 H := ⟨hid_le (sub_app h), fun _ _ _ => rfl⟩
end
def PostS (g : G) (Φ : Nat → Fn) (Cn : List D) (k : Nat) (sc : Sk) (X : Cx) (W : WX) (β : Option Addr) (M0 : List Addr) (ms : List (Option Addr)) (H : Hp) (o : Out) (D : Ends) : Prop := match o with
  | .bad => False
  | .go .nx ρ' s' => ∀ ms' H' σ', Step β M0 ms H ms' H' → At g Φ Cn k sc X W β M0 ms' H' σ' ρ' s' → D.nx σ' H'
  | .go .brk ρ' s' => ∀ ms' H' σ', Step β M0 ms H ms' H' → At g Φ Cn k sc X W β M0 ms' H' σ' ρ' s' → D.bk σ' H'
  | .go .ct ρ' s' => ∀ ms' H' σ', Step β M0 ms H ms' H' → At g Φ Cn k sc X W β M0 ms' H' σ' ρ' s' → D.ct σ' H'
  | .go (.ret d) ρ' s' => ∀ ms' H' σ' v, Step β M0 ms H ms' H' → At g Φ Cn k sc X W β M0 ms' H' σ' ρ' s' → Rp X.K (hid M0 H') v d → D.rt v H'
  | .exc c p ρ' s' => ∀ ms' H' σ' cls dd, Step β M0 ms H ms' H' → At g Φ Cn k sc X W β M0 ms' H' σ' ρ' s' → ErrR X.K X.mg g (M0 ++ owns ms') c p cls dd H' → W cls dd σ' H'
section
variable {g : G} {Φ : Nat → Fn} {Cn : List D} {k : Nat} {sc : Sk} {X : Cx} {W : WX} {β : Option Addr} {M0 : List Addr} {ms ms1 : List (Option Addr)} {H H1 : Hp} {σ σ1 : L2.St} {ρ : Env} {s s1 : Bx} {D : Ends}
theorem PostS.from {o : Out} (h : PostS g Φ Cn k sc X W β M0 ms H o D) (e : Step β M0 ms H ms1 H1) : PostS g Φ Cn k sc X W β M0 ms1 H1 o D := by
  cases o with
  | bad => exact h
  | exc c p ρ' s' => exact fun ms' H' σ' cls dd z => h ms' H' σ' cls dd (e.trans z)
  | go f ρ' s' =>
    cases f with
    | nx => exact fun ms' H' σ' z => h ms' H' σ' (e.trans z)
    | brk => exact fun ms' H' σ' z => h ms' H' σ' (e.trans z)
    | ct => exact fun ms' H' σ' z => h ms' H' σ' (e.trans z)
    | ret d => exact fun ms' H' σ' v z => h ms' H' σ' v (e.trans z)
/-- an expression ahead -/
theorem PostS.lft {α : Type} {m : Pd.M α} {f : α → SM} (h : PostS g Φ Cn k sc X W β M0 ms H (lft ρ m f s) D) (A : At g Φ Cn k sc X W β M0 ms H σ ρ s) :
    PostM X.K X.mg g W σ β (M0 ++ owns ms) H s (m s) (fun a H' s' => PostS g Φ Cn k sc X W β M0 ms H' (f a s') D) := by
  unfold Pd.lft at h
  cases e : m s with
  | bad =>
    rw [e] at h
    exact h
  | ok a s' =>
    rw [e] at h
    exact fun H' x => PostS.from h (.ext x)
  | exc c p s' =>
    rw [e] at h
    exact fun cls dd H' x er => h ms H' σ cls dd (.ext x) (A.ext x) er
theorem PostS.lftE {m : Pd.M PyData} {f : PyData → SM} (h : PostS g Φ Cn k sc X W β M0 ms H (Pd.lft ρ m f s) D) (A : At g Φ Cn k sc X W β M0 ms H σ ρ s) :
    PostM X.K X.mg g W σ β (M0 ++ owns ms) H s (m s) (fun a H' s' => PostS g Φ Cn k sc X W β M0 ms H' (f a s') D) := PostS.lft h A
/-- one statement, then others -/
theorem PostS.seq {m : SM} {f : Env → SM} (h : PostS g Φ Cn k sc X W β M0 ms H (SM.seq m f s) D) (nx : L2.St → Hp → Prop) (hn : ∀ ms' H' σ' ρ' s', Step β M0 ms H ms' H' → At g Φ Cn k sc X W β M0 ms' H' σ' ρ' s' → PostS g Φ Cn k sc X W β M0 ms' H' (f ρ' s') D → nx σ' H') :
    PostS g Φ Cn k sc X W β M0 ms H (m s) { D with nx := nx } := by
  unfold SM.seq at h
  cases e : m s with
  | bad =>
    rw [e] at h
    exact h
  | exc c p ρ' s' =>
    rw [e] at h
    exact h
  | go fl ρ' s' =>
    rw [e] at h
    cases fl with
    | nx => exact fun ms' H' σ' z A => hn ms' H' σ' ρ' s' z A (PostS.from h z)
    | brk => exact h
    | ct => exact h
    | ret d => exact h
end
section
variable (g : G) (Φ : Nat → Fn) (Cn : List D) (k : Nat) (sc : Sk)
def SS (st : Stmt) (m : Env → SM) : Prop := ∀ (X : Cx) (W : WX) (β : Option Addr) (M0 : List Addr) (ms : List (Option Addr)) (H : Hp) (σ : L2.St) (ρ : Env) (s : Bx) (D : Ends), At g Φ Cn k sc X W β M0 ms H σ ρ s →
  PostS g Φ Cn k sc X W β M0 ms H (m ρ s) D → wS X st D σ H
def SSs (st : List Stmt) (m : Env → SM) : Prop := ∀ (X : Cx) (W : WX) (β : Option Addr) (M0 : List Addr) (ms : List (Option Addr)) (H : Hp) (σ : L2.St) (ρ : Env) (s : Bx) (D : Ends), At g Φ Cn k sc X W β M0 ms H σ ρ s →
  PostS g Φ Cn k sc X W β M0 ms H (m ρ s) D → wSs X st D σ H
end
section
variable {g : G} {Φ : Nat → Fn} {Cn : List D} {k : Nat} {sc : Sk} {X : Cx} {W : WX} {β : Option Addr} {M0 : List Addr} {ms : List (Option Addr)} {H : Hp} {σ : L2.St} {ρ : Env} {s : Bx} {D : Ends}
variable {a b c e : Expr} {st : Stmt} {sts sts2 : List Stmt} {ma mb mc : Env → M PyData} {oa ob oc : Env → Bool} {mS mR : Env → SM} {pos p2 p : Pos}
theorem wS.of {X : Cx} {st : Stmt} {t : TS} {D : Ends} {σ : L2.St} {H : Hp} (h : PS X st t) (q : t D σ H) : wS X st D σ H := ⟨t, h, q⟩
theorem wSs.of {X : Cx} {st : List Stmt} {t : TS} {D : Ends} {σ : L2.St} {H : Hp} (h : PSs X st t) (q : t D σ H) : wSs X st D σ H := ⟨t, h, q⟩
theorem ss_nil : SSs g Φ Cn k sc [] (fun ρ => .go .nx ρ) := fun X W β M0 ms H σ ρ s D A h => wSs.of pss_nil (h ms H σ .refl A)
theorem ss_cons (h1 : SS g Φ Cn k sc st mS) (h2 : SSs g Φ Cn k sc sts mR) : SSs g Φ Cn k sc (st :: sts) (fun ρ => SM.seq (mS ρ) mR) := by
  intro X W β M0 ms H σ ρ s D A h
  refine wSs.of (pss_cons (wS_ps st) (wSs_ps sts)) ?_
  exact h1 X W β M0 ms H σ ρ s _ A (PostS.seq h _ fun ms' H' σ' ρ' s' z A' q => h2 X W β M0 ms' H' σ' ρ' s' D A' q)
theorem s_pass : SS g Φ Cn k sc (.Pass pos) (fun ρ => .go .nx ρ) := fun X W β M0 ms H σ ρ s D A h => wS.of ps_pass (h ms H σ .refl A)
theorem s_brk : SS g Φ Cn k sc (.Break pos) (fun ρ => .go .brk ρ) := fun X W β M0 ms H σ ρ s D A h => wS.of ps_break (h ms H σ .refl A)
theorem s_cont : SS g Φ Cn k sc (.Continue pos) (fun ρ => .go .ct ρ) := fun X W β M0 ms H σ ρ s D A h => wS.of ps_continue (h ms H σ .refl A)
theorem s_doc {x : Str} {j : Nat} : SS g Φ Cn k sc (.Expr (.Constant (.str x) j p) pos) (fun ρ => .go .nx ρ) := fun X W β M0 ms H σ ρ s D A h => wS.of ps_doc (h ms H σ .refl A)
def notComp : Expr → Bool
  | .ListComp _ _ _ _ => false
  | .SetComp _ _ _ _ => false
  | .DictComp _ _ _ _ _ => false
  | _ => true
theorem noswap {e : Expr} {o : Option Expr} {l : Nat} {env : PySem.Env} (h : notComp e = true) : swapsWith e o l env = pure false := by cases e <;> first | rfl | cases h
theorem s_expr (he : SB g Φ Cn k sc e ma oa) (nc : notComp e = true) : SS g Φ Cn k sc (.Expr e pos) (fun ρ => Pd.lft ρ (ma ρ) fun _ => .go .nx ρ) := by
  intro X W β M0 ms H σ ρ s D A h
  refine wS.of (ps_expr (wE_pe e) (noswap nc)) ?_
  exact he.ex.use A ((PostS.lft h A).imp fun x H1 s1 e1 h1 v r _ => h1 ms H1 σ .refl (A.ext e1))
theorem s_if (hc : SB g Φ Cn k sc c mc oc) (h1 : SSs g Φ Cn k sc sts mS) (h2 : SSs g Φ Cn k sc sts2 mR) : SS g Φ Cn k sc (.If c sts sts2 pos) (fun ρ => Pd.lft ρ (trM (mc ρ)) fun k => if k then mS ρ else mR ρ) := by
  intro X W β M0 ms H σ ρ s D A h
  refine wS.of (ps_if (wT_pt c) (wSs_ps sts) (wSs_ps sts2)) ?_
  refine hc.ts.use A ((PostS.lft h A).imp fun x H1 s1 e1 q => ?_)
  cases x with
  | true => exact h1 X W β M0 ms H1 σ ρ s1 D (A.ext e1) q
  | false => exact h2 X W β M0 ms H1 σ ρ s1 D (A.ext e1) q
theorem s_ret (he : SB g Φ Cn k sc e ma oa) : SS g Φ Cn k sc (.Return (some e) pos) (fun ρ => if oa ρ then .bad else Pd.lft ρ (ma ρ) fun x => .go (.ret x) ρ) := by
  intro X W β M0 ms H σ ρ s D A h
  refine wS.of (ps_ret (wE_pe e)) ?_
  have h : PostS g Φ Cn k sc X W β M0 ms H ((if oa ρ then SM.bad else Pd.lft ρ (ma ρ) fun x => .go (.ret x) ρ) s) D := h
  cases eo : oa ρ with
  | true =>
    rw [eo] at h
    exact h.elim
  | false =>
    rw [eo] at h
    exact he.ex.use A ((PostS.lft (m := ma ρ) h A).imp fun x H1 s1 e1 q v r r0 => q ms H1 σ v .refl (A.ext e1) ((r0 eo).same (hid_le fun a ha => List.mem_append_left _ ha)))
theorem s_retSlot {i : Nat} {x : Str} (hN : g.N[i]? = some x) (hv : visB sc.run x = true) (ok : okN x = true) : SS g Φ Cn k sc (.Return (some (.Name x p)) pos) (fun ρ => Pd.lft ρ (getSlot ρ i) fun x => .go (.ret x) ρ) := by
  intro X W β M0 ms H σ ρ s D A h
  refine wS.of (ps_ret (pe_var (i := i) (by rw [A.good.nm]; exact hN) (A.good.vis hv) (okN_d ok) (okN_c ok))) ?_
  show ∃ v, σ[i]? = some (some v) ∧ D.rt v H
  have h : PostS g Φ Cn k sc X W β M0 ms H (Pd.lft ρ (getSlot ρ i) (fun x => .go (.ret x) ρ) s) D := h
  cases e : ρ[i]? with
  | none =>
    have eg : getSlot ρ i = Pd.M.bad := by
      unfold getSlot
      rw [e]
    rw [eg] at h
    exact h.elim
  | some sl =>
    have q := A.rel.at_ i sl e
    cases sl with
    | un =>
      have eg : getSlot ρ i = Pd.M.bad := by
        unfold getSlot
        rw [e]
      rw [eg] at h
      exact h.elim
    | box =>
      have eg : getSlot ρ i = Pd.M.bad := by
        unfold getSlot
        rw [e]
      rw [eg] at h
      exact h.elim
    | scr ns =>
      have eg : getSlot ρ i = Pd.M.bad := by
        unfold getSlot
        rw [e]
      rw [eg] at h
      exact h.elim
    | dat d =>
      have eg : getSlot ρ i = Pd.M.pure d := by
        unfold getSlot
        rw [e]
      rw [eg] at h
      obtain ⟨q1, v, q2, q3⟩ := q
      exact ⟨v, q2, h ms H σ v .refl A (q3.same (hid_le fun a ha => List.mem_append_left _ ha))⟩
    | own ds =>
      have eg : getSlot ρ i = Pd.M.pure (.list ds) := by
        unfold getSlot
        rw [e]
      rw [eg] at h
      obtain ⟨p, vs, q1, q2, q3, q4⟩ := q
      refine ⟨_, q2, h ms H σ _ .refl A (.lst (hid_some.mpr ⟨(A.rel.ap p (mem_owns q1)).1, q3⟩) (q4.same (hid_le fun a ha => List.mem_append_left _ ha)))⟩
theorem s_retN : SS g Φ Cn k sc (.Return none pos) (fun ρ => .go (.ret .none) ρ) := fun X W β M0 ms H σ ρ s D A h => wS.of ps_retN (h ms H σ .non .refl A .non)

/-! ### names are set -/
theorem nmOk_ix {i : Nat} {x : Str} (h : nmOk g sc i x = true) : g.N[i]? = some x ∧ stoB sc.wr x = true := by
  unfold nmOk at h
  rw [Bool.and_eq_true, decide_eq_true_eq] at h
  exact h
theorem Good.loc (A : Good g Φ Cn k sc X W) {i : Nat} {x : Str} (h : nmOk g sc i x = true) : X.N[i]? = some x ∧ Loc X.env.scope x ∧ (X.fn x = true ∨ X.env.scope.names.lookup x = some .local) := by
  obtain ⟨h1, h2⟩ := nmOk_ix h
  obtain ⟨l, f⟩ := A.fnm x h2
  rw [A.nm, A.sc_]
  exact ⟨h1, l, f⟩
theorem s_asg {i : Nat} {x : Str} (hn : nmOk g sc i x = true) (he : SB g Φ Cn k sc e ma oa)
    (sw : ∀ env : PySem.Env, env.scope = sc.run → swapsWith e (some (.Name x p)) pos.line env = pure false) : SS g Φ Cn k sc (.Assign [.Name x p] e pos) (fun ρ => if oa ρ then .bad else Pd.lft ρ (ma ρ) fun y => .go .nx (ρ.set i (.dat y))) := by
  intro X W β M0 ms H σ ρ s D A h
  obtain ⟨h1, h2, h3⟩ := A.good.loc hn
  refine wS.of (ps_set A.good.nd h1 h2 (wE_pe e) (sw _ A.good.sc_) h3) ?_
  have h : PostS g Φ Cn k sc X W β M0 ms H ((if oa ρ then SM.bad else Pd.lft ρ (ma ρ) fun y => .go .nx (ρ.set i (.dat y))) s) D := h
  cases eo : oa ρ with
  | true =>
    rw [eo] at h
    exact h.elim
  | false =>
    rw [eo] at h
    exact he.ex.use A ((PostS.lft (m := ma ρ) h A).imp fun y H1 s1 e1 q v r r0 => q (ms.set i none) H1 _ (.fewer (owns_none ms i)) ((A.ext e1).put (r0 eo)))
/-- name = [..] of a comprehension, on one line -/
theorem s_asgLc {i : Nat} {x : Str} {scope : Scope} {tg : Tg} {tgE it : Expr} {ifs : List Expr} {own : List (Str × Nat)} {mi : Env → M (List PyData)} {oi : Env → Bool} {mt : Env → M Bool} {me : Env → M PyData} {oe : Env → Bool} {lp : Pos}
    (hn : nmOk g sc i x = true) (hl : sc.run.names.lookup x = some .local)
    (sw : ∀ env : PySem.Env, env.scope = sc.run → swapsWith (.ListComp e [⟨tgE, it, ifs, 0⟩] scope lp) (some (.Name x p)) pos.line env = pure true)
    (hi : SI g Φ Cn k sc tgE it mi oi) (bl : blkC g.N sc.run scope own = true) (ok : tgOk g (bSk sc scope) tg tgE = true) (sub : ∀ i ∈ tgSlots tg, i ∈ own.map (·.2)) (hc : SC g Φ Cn k (bSk sc scope) ifs mt) (he : SB g Φ Cn k (bSk sc scope) e me oe) :
    SS g Φ Cn k sc (.Assign [.Name x p] (.ListComp e [⟨tgE, it, ifs, 0⟩] scope lp) pos)
      (fun ρ => Pd.lft ρ (.bind (mi ρ) fun xs => if anyOwn ρ (own.map (·.2)) then .bad else .bind (M.quiet (collect (turnF tg (own.map (·.2)) mt me oe ρ) xs)) ckLim) fun y => .go .nx (ρ.set i (.dat y))) := by
  intro X W β M0 ms H σ ρ s D A h
  obtain ⟨h1, h2, h3⟩ := A.good.loc hn
  have bo := blkOk_by bl
  rw [← A.good.nm, ← A.good.sc_] at bo
  refine wS.of (ps_setLc A.good.calm A.good.nd h1 (by rw [A.good.sc_]; exact hl) (sw _ A.good.sc_) (wI_pi tgE it) bo (fun s H C cl fp => uG_pg X scope tgE s H C cl fp) (fun s H C cl fp => uC_pt X scope s H C cl fp ifs) (fun s H C cl fp => uE_pe X scope e s H C cl fp) fun x => hi.fs _ x) ?_
  refine comp_core hi ok sub hc he A ?_
  have q := PostS.lft (m := .bind (mi ρ) fun xs => if anyOwn ρ (own.map (·.2)) then .bad else .bind (M.quiet (collect (turnF tg (own.map (·.2)) mt me oe ρ) xs)) ckLim) h A
  revert q
  generalize (Pd.M.bind (mi ρ) fun xs => if anyOwn ρ (own.map (·.2)) then .bad else .bind (M.quiet (collect (turnF tg (own.map (·.2)) mt me oe ρ) xs)) ckLim) s = r
  cases r with
  | bad => exact id
  | exc c p s' => exact id
  | ok d s' => exact fun q v H' x _ r0 => q H' x (ms.set i none) H' _ (.fewer (owns_none ms i)) ((A.ext x).put (r0 rfl))
end
end Pd
end
section
/-! Pd: lists of one's own: made, appended to, extended. -/
namespace Pd
open PySem PySem.Spec PyProof.Rows L2

/-! ### extend by a tuple -/
theorem ext_tup (l : Addr) (items : Array Value) (n : Nat) (b : Addr) (dd : Option Addr) (sl : Array (Option Value)) (items2 : Array Value) (n2 : Nat) (hs0 : ¬(!items.isEmpty && Builtin.List.listTooLong (items.size + items2.size)) = true) (hs1 : items.size ≤ sizeLine) (hs2 : items.size + items2.size ≤ sizeLine + 1) :
    Meets (Builtin.«list.extend» ⟨[.ref l, .ref b], []⟩) (fun _ R s => s.heap.get? l = some { cls := .type "list", dict := none, data := .seq items n, slots := #[] } ∧ s.heap.get? b = some { cls := .type "tuple", dict := dd, data := .seq items2 n2, slots := sl } ∧ R (.ok (.ret Value.none)) { s with heap := s.heap.update l (Obj.mapSeq fun x => x ++ items2), toks := s.toks }) :=
  .of_wp fun prog w A R s h => by
    obtain ⟨hp, g, d, tk, os⟩ := s
    obtain ⟨hl, hb, h⟩ := h
    have hz' : (items ++ items2).size ≤ sizeLine + 1 := by rw [Array.size_append]; exact hs2
    wp_walk using (wpAny_updateSeq hl rfl (hz := hs1) (_hz' := hz')), wpAny_loadPart' hl, wpAny_loadPart' hb
    exact ⟨_, rfl, h⟩
def rExtT (K : PySem.W.Frag) : V → List V → Hp → VK → Prop := fun x vs H Q => ∃ l b xs zs, x = .ref l ∧ vs = [.ref b] ∧ H l = some (.lst xs) ∧ SqT K H b zs ∧ xs.length + zs.length ≤ sizeLine ∧ Q .non (upd H l (.lst (xs ++ zs)))
theorem mt_extT {X : Cx} : MtM X "list.extend" (rExtT X.K) := by
  intro pins s σ H x vs v us Q I rx rv h
  obtain ⟨l, b, xs, zs, rfl, rfl, hH, hB, hz, q⟩ := h
  cases rx
  obtain ⟨u, rfl, ru⟩ := rv.one
  cases ru
  obtain ⟨z, its, n, r, hl, e⟩ := I.lstM hH
  obtain ⟨its2, r2, ⟨o, e2, hc, n2, hd⟩, hl2⟩ := I.tuple hB
  obtain ⟨cls, dd, data, sl⟩ := o
  cases hc
  cases hd
  have e3 := r2.length
  have hsz : its.toArray.size + its2.toArray.size ≤ sizeLine := by rw [List.size_toArray, List.size_toArray]; omega
  have hlong : ¬ (!its.toArray.isEmpty && Builtin.List.listTooLong (its.toArray.size + its2.toArray.size)) = true := by
    rw [notLongL hsz, Bool.and_false]
    exact Bool.false_ne_true
  refine call_meets F.slot_list_extend ⟨_, e, rfl⟩ F.entry_list_extend (F.args_list_extend_2 _ _)
    (ext_tup l its.toArray n b dd sl its2.toArray n2 hlong (by rw [List.size_toArray]; omega) (by omega)) ⟨e, e2, ?_⟩
  refine ⟨.non, _, I.lset (its' := its ++ its2) hH e (by simp) (r.append r2) ?_, rfl, q⟩
  rw [List.length_append]
  omega
def wMt (X : Cx) (id : String) : V → List V → Hp → VK → Prop := fun x vs H Q => ∃ r, MtM X id r ∧ r x vs H Q
theorem wMt_mt {X : Cx} {id : String} : MtM X id (wMt X id) := fun pins s σ H x xs v us Q I rx rv ⟨r, h, q⟩ => h pins s σ H x xs v us Q I rx rv q

/-! ### the frame with a list of one's own -/
theorem owns_some : ∀ (ms : List (Option Addr)) (i : Nat) (p a : Addr), a ∈ owns (ms.set i (some p)) → a = p ∨ a ∈ owns ms
  | [], _, _, _, h => by cases h
  | m :: r, 0, p, a, h => by
    have h' : a ∈ p :: owns r := h
    rcases List.mem_cons.mp h' with h2 | h2
    · exact .inl h2
    · refine .inr ?_
      cases m with
      | none => exact h2
      | some q => exact List.mem_cons_of_mem _ h2
  | m :: r, i + 1, p, a, h => by
    cases m with
    | none => exact owns_some r i p a h
    | some q =>
      have h : a ∈ q :: owns (r.set i (some p)) := h
      rcases List.mem_cons.mp h with h | h
      · exact .inr (h ▸ List.mem_cons_self)
      · exact (owns_some r i p a h).imp id fun z => List.mem_cons_of_mem _ z
theorem owns_nd : ∀ (ms : List (Option Addr)) (i : Nat) (p : Addr), (owns ms).Nodup → p ∉ owns ms → (owns (ms.set i (some p))).Nodup
  | [], _, _, h, _ => h
  | m :: r, 0, p, h, hp => by
    show (p :: owns r).Nodup
    cases m with
    | none => exact List.nodup_cons.mpr ⟨hp, h⟩
    | some q => exact List.nodup_cons.mpr ⟨fun z => hp (List.mem_cons_of_mem _ z), (List.nodup_cons.mp h).2⟩
  | m :: r, i + 1, p, h, hp => by
    cases m with
    | none => exact owns_nd r i p h hp
    | some q =>
      show (q :: owns (r.set i (some p))).Nodup
      have h : (q :: owns r).Nodup := h
      have hp : p ∉ q :: owns r := hp
      refine List.nodup_cons.mpr ⟨fun z => ?_, owns_nd r i p (List.nodup_cons.mp h).2 fun z => hp (List.mem_cons_of_mem _ z)⟩
      rcases owns_some r i p q z with e | e
      · exact hp (e ▸ List.mem_cons_self)
      · exact (List.nodup_cons.mp h).1 e
theorem owns_inj : ∀ {ms : List (Option Addr)} {i j : Nat} {p : Addr}, (owns ms).Nodup → ms[i]? = some (some p) → ms[j]? = some (some p) → i = j
  | m :: r, 0, 0, p, _, _, _ => rfl
  | m :: r, 0, j + 1, p, h, e1, e2 => by
    simp at e1 e2
    subst e1
    have h : (p :: owns r).Nodup := h
    exact absurd (mem_owns e2) (List.nodup_cons.mp h).1
  | m :: r, i + 1, 0, p, h, e1, e2 => by
    simp at e1 e2
    subst e2
    have h : (p :: owns r).Nodup := h
    exact absurd (mem_owns e1) (List.nodup_cons.mp h).1
  | m :: r, i + 1, j + 1, p, h, e1, e2 => by
    have h' : (owns r).Nodup := by
      cases m with
      | none => exact h
      | some q => exact (List.nodup_cons.mp h).2
    exact congrArg (· + 1) (owns_inj (ms := r) h' (by simpa using e1) (by simpa using e2))
section
variable {g : G} {Φ : Nat → Fn} {Cn : List D} {k : Nat} {sc : Sk} {X : Cx} {W : WX} {β : Option Addr} {M0 : List Addr} {ms : List (Option Addr)} {H : Hp} {σ : L2.St} {ρ : Env} {s : Bx} {D : Ends}
variable {e : Expr} {ma : Env → M PyData} {oa : Env → Bool} {pos p : Pos}
/-- a new list becomes one's own -/
theorem At.own (A : At g Φ Cn k sc X W β M0 ms H σ ρ s) {i : Nat} {p : Addr} {vs : List V} {ds : List PyData} (hp : H p = none) (r : RpA X.K (hid (M0 ++ owns ms) H) vs ds) :
    At g Φ Cn k sc X W β M0 (ms.set i (some p)) (upd H p (.lst vs)) (σ.set i (some (.ref p))) (ρ.set i (.own ds)) s ∧ Step β M0 ms H (ms.set i (some p)) (upd H p (.lst vs)) := by
  have nM : p ∉ M0 := fun z => by
    obtain ⟨o, e⟩ := A.live p z
    rw [hp] at e
    cases e
  have nO : p ∉ owns ms := fun z => by
    obtain ⟨vs, e⟩ := A.rel.ownLst z
    rw [hp] at e
    cases e
  have nB := box_ne A.box hp
  have sm : Same (hid (M0 ++ owns ms) H) (hid (M0 ++ owns (ms.set i (some p))) (upd H p (.lst vs))) := fun a u h => by
    obtain ⟨h1, h2⟩ := hid_some.mp h
    have ne : ¬ (a = p) := fun z => by rw [z, hp] at h2; cases h2
    refine hid_some.mpr ⟨fun z => ?_, by rw [upd_ne ne]; exact h2⟩
    rcases List.mem_append.mp z with z | z
    · exact h1 (List.mem_append_left _ z)
    · rcases owns_some ms i p a z with z | z
      · exact ne z
      · exact h1 (List.mem_append_right _ z)
  refine ⟨⟨A.good, ⟨by simpa using A.rel.len, fun j sl e => ?_, by simpa using A.rel.mlen, owns_nd ms i p A.rel.nd nO, fun a ha => ?_⟩, ?_, fun a ha => ?_, A.bin⟩, ⟨sm, fun a ha hb => ?_⟩⟩
  · rcases set_cases e with ⟨rfl, lt, rfl⟩ | ⟨ne, e1⟩
    · refine ⟨p, vs, ?_, ?_, upd_same, r.same sm⟩
      · rw [List.getElem?_set_self (by rw [A.rel.mlen]; exact lt)]
      · rw [List.getElem?_set_self (by rw [A.rel.len]; exact lt)]
    · rw [List.getElem?_set_ne ne, List.getElem?_set_ne ne]
      have q := A.rel.at_ j sl e1
      cases sl with
      | un => exact q
      | dat d =>
        obtain ⟨q1, v, q2, q3⟩ := q
        exact ⟨q1, v, q2, q3.same sm⟩
      | scr ns =>
        obtain ⟨q1, v, q2, q3⟩ := q
        exact ⟨q1, v, q2, q3.same sm⟩
      | own ds =>
        obtain ⟨p', vs', q1, q2, q3, q4⟩ := q
        refine ⟨p', vs', q1, q2, ?_, q4.same sm⟩
        rw [upd_ne (ne_of_none q3 hp)]
        exact q3
      | box => exact q
  · rcases owns_some ms i p a ha with rfl | ha
    · exact ⟨nM, nB⟩
    · exact A.rel.ap a ha
  · have q := A.box
    cases β with
    | none => trivial
    | some c =>
      have q : H c = some (.lst [.int s.a, .int s.b, .int s.c]) := q
      show upd H p (.lst vs) c = _
      rw [upd_ne (ne_of_none q hp)]
      exact q
  · obtain ⟨o, e⟩ := A.live a ha
    exact ⟨o, by rw [upd_ne (ne_of_none e hp)]; exact e⟩
  · obtain ⟨o, e⟩ := A.live a ha
    rw [upd_ne (ne_of_none e hp)]
/-- a list of one's own is changed -/
theorem At.mod (A : At g Φ Cn k sc X W β M0 ms H σ ρ s) {i : Nat} {p : Addr} {vs : List V} {ds ds0 : List PyData} (e0 : ρ[i]? = some (.own ds0)) (hm : ms[i]? = some (some p)) (r : RpA X.K (hid (M0 ++ owns ms) H) vs ds) :
    At g Φ Cn k sc X W β M0 ms (upd H p (.lst vs)) σ (ρ.set i (.own ds)) s ∧ Step β M0 ms H ms (upd H p (.lst vs)) := by
  have hO := mem_owns hm
  have eh : hid (M0 ++ owns ms) (upd H p (.lst vs)) = hid (M0 ++ owns ms) H := by
    funext a
    unfold hid
    by_cases h : a ∈ M0 ++ owns ms
    · rw [if_pos h, if_pos h]
    · rw [if_neg h, if_neg h, upd_ne fun z => h (by rw [z]; exact List.mem_append_right _ hO)]
  obtain ⟨nM, nB⟩ := A.rel.ap p hO
  refine ⟨⟨A.good, ⟨by simpa using A.rel.len, fun j sl e => ?_, by simpa using A.rel.mlen, A.rel.nd, A.rel.ap⟩, ?_, fun a ha => ?_, A.bin⟩, ⟨by rw [eh]; exact Same.refl _, fun a ha hb => ?_⟩⟩
  · rcases set_cases e with ⟨rfl, lt, rfl⟩ | ⟨ne, e1⟩
    · obtain ⟨p', vs', q1, q2, q3, q4⟩ := A.rel.at_ i _ e0
      rw [hm] at q1
      cases q1
      exact ⟨p, vs, hm, q2, upd_same, by rw [eh]; exact r⟩
    · have q := A.rel.at_ j sl e1
      cases sl with
      | un => exact q
      | dat d =>
        obtain ⟨q1, v, q2, q3⟩ := q
        exact ⟨q1, v, q2, by rw [eh]; exact q3⟩
      | scr ns =>
        obtain ⟨q1, v, q2, q3⟩ := q
        exact ⟨q1, v, q2, by rw [eh]; exact q3⟩
      | own ds =>
        obtain ⟨p', vs', q1, q2, q3, q4⟩ := q
        refine ⟨p', vs', q1, q2, ?_, by rw [eh]; exact q4⟩
        rw [upd_ne fun z => ne (owns_inj A.rel.nd hm (by rw [← z]; exact q1))]
        exact q3
      | box => exact q
  · have q := A.box
    cases β with
    | none => trivial
    | some c =>
      have q : H c = some (.lst [.int s.a, .int s.b, .int s.c]) := q
      show upd H p (.lst vs) c = _
      rw [upd_ne fun z => nB (congrArg some z)]
      exact q
  · obtain ⟨o, e⟩ := A.live a ha
    have ne : ¬ (a = p) := fun z => nM (z ▸ ha)
    exact ⟨o, by rw [upd_ne ne]; exact e⟩
  · have ne : ¬ (a = p) := fun z => nM (z ▸ ha)
    rw [upd_ne ne]
theorem s_own {i : Nat} {x : Str} {lp : Pos} (hn : nmOk g sc i x = true) : SS g Φ Cn k sc (.Assign [.Name x p] (.List [] lp) pos) (fun ρ => .go .nx (ρ.set i (.own []))) := by
  intro X W β M0 ms H σ ρ s D A h
  obtain ⟨h1, h2, h3⟩ := A.good.loc hn
  refine wS.of (ps_set A.good.nd h1 h2 (pe_lst pa_nil) (noswap rfl) h3) ⟨by decide, fun u hu => ?_⟩
  obtain ⟨A', z⟩ := A.own (i := i) (vs := []) (ds := []) hu .nil
  exact h _ _ _ z A'
theorem own_at {i : Nat} {x : Str} (hN : g.N[i]? = some x) (hv : visB sc.run x = true) (ok : okN x = true) (A : At g Φ Cn k sc X W β M0 ms H σ ρ s) {ds : List PyData} (e : ρ[i]? = some (.own ds)) {Q : VK}
    (q : ∀ u vs, ms[i]? = some (some u) → H u = some (.lst vs) → RpA X.K (hid (M0 ++ owns ms) H) vs ds → Q (.ref u) H) : wE X (.Name x p) σ H Q := by
  obtain ⟨u, vs, q1, q2, q3, q4⟩ := A.rel.at_ i _ e
  exact wE.of (pe_var (i := i) (by rw [A.good.nm]; exact hN) (A.good.vis hv) (okN_d ok) (okN_c ok)) ⟨_, q2, q u vs q1 q3 q4⟩
theorem few_ok {e : Expr} {es : List Expr} {env : PySem.Env} {pos : Pos} (h : plainE e = true) : ((backTo pos (starEach [e] env)).all (fun x => !x.1) && (backToKw pos (keywordEach [] env)).all (fun x => x.1.isSome)
      && decide (([e] : List Expr).length + ([] : List Keyword).length + (if ([] : List Keyword).isEmpty then 0 else 1) < 30)) = true := by
  rw [plain_star h]
  rfl
theorem atOwn_some {ρ : Env} {i : Nat} {ds : List PyData} (h : atOwn ρ i = some ds) : ρ[i]? = some (.own ds) := by
  unfold atOwn at h
  split at h
  · rename_i e
    cases h
    exact e
  · cases h
theorem s_app {i : Nat} {x : Str} {pn apos cpos : Pos} (hN : g.N[i]? = some x) (hv : visB sc.run x = true) (ok : okN x = true) (hl : (apos.endLine == cpos.line) = true) (he : SB g Φ Cn k sc e ma oa) :
    SS g Φ Cn k sc (.Expr (.Call (.Attribute (.Name x pn) "append" apos) [e] [] cpos) pos)
      (fun ρ => if oa ρ then .bad else match atOwn ρ i with
        | some ds => Pd.lft ρ (ma ρ) fun y => if ds.length < lim then .go .nx (ρ.set i (.own (ds ++ [y]))) else .bad
        | none => .bad) := by
  intro X W β M0 ms H σ ρ s D A h
  refine wS.of (ps_expr (pe_bm PySem.F.plainAttrs_list PySem.F.slot_list_append PySem.F.type_list_append mt_append (wE_pe (.Name x pn)) (pa_cons (wE_pe e) pa_nil (plain_star he.pl)) rfl (few_ok (es := []) he.pl) hl (plain_star he.pl) rfl) (noswap rfl)) ?_
  have h : PostS g Φ Cn k sc X W β M0 ms H ((if oa ρ then SM.bad else match atOwn ρ i with
        | some ds => Pd.lft ρ (ma ρ) fun y => if ds.length < lim then .go .nx (ρ.set i (.own (ds ++ [y]))) else .bad
        | none => .bad) s) D := h
  cases eo : oa ρ with
  | true =>
    rw [eo] at h
    exact h.elim
  | false =>
    rw [eo] at h
    cases ea : atOwn ρ i with
    | none =>
      rw [ea] at h
      exact h.elim
    | some ds =>
      rw [ea] at h
      have e0 := atOwn_some ea
      refine own_at hN hv ok A e0 fun u vs q1 q2 q3 => ⟨.inl ⟨rfl, vs, .inl (.inl q2)⟩, ?_⟩
      refine he.ex.use A ((PostS.lft (m := ma ρ) h A).imp fun y H1 s1 e1 q v r r0 => ?_)
      have A1 := A.ext e1
      by_cases hlt : ds.length < lim
      · rw [if_pos hlt] at q
        have q2' : H1 u = some (.lst vs) := (e1.keep u (List.mem_append_right _ (mem_owns q1)) (A.rel.ap u (mem_owns q1)).2).trans q2
        have q3' := q3.same e1.same
        refine ⟨u, vs, v, rfl, rfl, q2', by rw [q3'.length]; exact hlt, ?_⟩
        obtain ⟨A2, z⟩ := A1.mod e0 q1 (RpA.app q3' (.cons (r0 eo) .nil))
        exact q _ _ _ z A2
      · rw [if_neg hlt] at q
        exact q.elim
theorem s_ext {i : Nat} {x : Str} {pn apos cpos : Pos} (hN : g.N[i]? = some x) (hv : visB sc.run x = true) (ok : okN x = true) (hl : (apos.endLine == cpos.line) = true) (he : SB g Φ Cn k sc e ma oa) :
    SS g Φ Cn k sc (.Expr (.Call (.Attribute (.Name x pn) "extend" apos) [e] [] cpos) pos)
      (fun ρ => if oa ρ then .bad else match atOwn ρ i with
        | some ds => Pd.lft ρ (ma ρ) fun y => match seqOf y with
          | some ys => if ds.length + ys.length ≤ lim then .go .nx (ρ.set i (.own (ds ++ ys))) else .bad
          | none => .bad
        | none => .bad) := by
  intro X W β M0 ms H σ ρ s D A h
  refine wS.of (ps_expr (pe_bm PySem.F.plainAttrs_list PySem.F.slot_list_extend PySem.F.type_list_extend (wMt_mt (id := "list.extend")) (wE_pe (.Name x pn)) (pa_cons (wE_pe e) pa_nil (plain_star he.pl)) rfl (few_ok (es := []) he.pl) hl (plain_star he.pl) rfl) (noswap rfl)) ?_
  have h : PostS g Φ Cn k sc X W β M0 ms H ((if oa ρ then SM.bad else match atOwn ρ i with
        | some ds => Pd.lft ρ (ma ρ) fun y => match seqOf y with
          | some ys => if ds.length + ys.length ≤ lim then .go .nx (ρ.set i (.own (ds ++ ys))) else .bad
          | none => .bad
        | none => .bad) s) D := h
  cases eo : oa ρ with
  | true =>
    rw [eo] at h
    exact h.elim
  | false =>
    rw [eo] at h
    cases ea : atOwn ρ i with
    | none =>
      rw [ea] at h
      exact h.elim
    | some ds =>
      rw [ea] at h
      have e0 := atOwn_some ea
      refine own_at hN hv ok A e0 fun u vs q1 q2 q3 => ⟨.inl ⟨rfl, vs, .inl (.inl q2)⟩, ?_⟩
      refine he.ex.use A ((PostS.lft (m := ma ρ) h A).imp fun y H1 s1 e1 q v r r0 => ?_)
      have A1 := A.ext e1
      cases ey : seqOf y with
      | none =>
        rw [ey] at q
        exact q.elim
      | some ys =>
        rw [ey] at q
        dsimp only at q
        by_cases hlt : ds.length + ys.length ≤ lim
        · rw [if_pos hlt] at q
          have q2' : H1 u = some (.lst vs) := (e1.keep u (List.mem_append_right _ (mem_owns q1)) (A.rel.ap u (mem_owns q1)).2).trans q2
          have q3' := q3.same e1.same
          obtain ⟨b, zs, rfl, g1, g2⟩ := r.seq ey
          have hz : vs.length + zs.length ≤ sizeLine := by
            rw [q3'.length, g2.length]
            exact hlt
          obtain ⟨A2, z⟩ := A1.mod e0 q1 (RpA.app q3' g2)
          have fin := q _ _ _ z A2
          rcases g1 with g1 | g1
          · exact ⟨_, mt_extend, u, b, vs, zs, rfl, rfl, q2', g1, hz, fin⟩
          · exact ⟨_, mt_extT, u, b, vs, zs, rfl, rfl, q2', g1, hz, fin⟩
        · rw [if_neg hlt] at q
          exact q.elim
end
end Pd
end
section
/-! Pd: an item goes from one's own list to another. -/
namespace Pd
open PySem PySem.Spec PyProof.Rows L2
theorem RpA.erase {K : PySem.W.Frag} {H : Hp} : ∀ {vs : List V} {ds : List D} (n : Nat), RpA K H vs ds → RpA K H (vs.eraseIdx n) (ds.eraseIdx n)
  | _, _, _, .nil => .nil
  | _, _, 0, .cons _ r => r
  | _, _, n + 1, .cons q r => .cons q (RpA.erase n r)
section
variable {g : G} {Φ : Nat → Fn} {Cn : List D} {k : Nat} {sc : Sk} {X : Cx} {W : WX} {β : Option Addr} {M0 : List Addr} {ms : List (Option Addr)} {H : Hp} {σ : L2.St} {ρ : Env} {s : Bx} {D : Ends}
variable {e : Expr} {ma : Env → M PyData} {oa : Env → Bool} {pos p : Pos}
theorem s_apop {i j : Nat} {x y : Str} {pn apos cpos pn2 apos2 cpos2 : Pos} (hN : g.N[i]? = some x) (hv : visB sc.run x = true) (ok : okN x = true) (hl : (apos.endLine == cpos.line) = true)
    (hN2 : g.N[j]? = some y) (hv2 : visB sc.run y = true) (ok2 : okN y = true) (hl2 : (apos2.endLine == cpos2.line) = true) (he : SB g Φ Cn k sc e ma oa) :
    SS g Φ Cn k sc (.Expr (.Call (.Attribute (.Name x pn) "append" apos) [.Call (.Attribute (.Name y pn2) "pop" apos2) [e] [] cpos2] [] cpos) pos)
      (fun ρ => apopS (oa ρ) (ma ρ) i j ρ) := by
  intro X W β M0 ms H σ ρ s D A h
  refine wS.of (ps_expr (pe_bm PySem.F.plainAttrs_list PySem.F.slot_list_append PySem.F.type_list_append mt_append (wE_pe (.Name x pn))
    (pa_cons (pe_bm PySem.F.plainAttrs_list PySem.F.slot_list_pop PySem.F.type_list_pop mt_popAt (wE_pe (.Name y pn2)) (pa_cons (wE_pe e) pa_nil (plain_star he.pl)) rfl (few_ok (es := []) he.pl) hl2 (plain_star he.pl) rfl) pa_nil rfl) rfl (few_ok (es := []) rfl) hl rfl rfl) (noswap rfl)) ?_
  have h : PostS g Φ Cn k sc X W β M0 ms H (apopS (oa ρ) (ma ρ) i j ρ s) D := h
  unfold apopS at h
  cases eo : oa ρ with
  | true =>
    rw [eo] at h
    exact h.elim
  | false =>
    rw [eo] at h
    cases ea : atOwn ρ i with
    | none =>
      rw [ea] at h
      exact h.elim
    | some ds =>
      cases eb : atOwn ρ j with
      | none =>
        rw [ea, eb] at h
        exact h.elim
      | some es =>
        rw [ea, eb] at h
        dsimp only at h
        by_cases ij : i = j
        · rw [if_pos ij] at h
          exact h.elim
        · rw [if_neg ij] at h
          have e0 := atOwn_some ea
          have f0 := atOwn_some eb
          refine own_at hN hv ok A e0 fun u vs q1 q2 q3 => ⟨.inl ⟨rfl, vs, .inl (.inl q2)⟩, ?_⟩
          refine own_at hN2 hv2 ok2 A f0 fun t ws t1 t2 t3 => ⟨.inl ⟨rfl, ws, .inl (.inl t2)⟩, ?_⟩
          refine he.ex.use A ((PostS.lft (m := ma ρ) h A).imp fun n H1 s1 e1 q v r r0 => ?_)
          have A1 := A.ext e1
          cases n with
          | int z =>
            cases r.int
            dsimp only at q
            cases ep : place es.length z with
            | none =>
              rw [ep] at q
              exact q.elim
            | some a =>
              rw [ep] at q
              dsimp only at q
              cases ey : es[a]? with
              | none =>
                rw [ey] at q
                exact q.elim
              | some y =>
                rw [ey] at q
                dsimp only at q
                by_cases hlt : ds.length < lim ∧ es.length ≤ lim
                · rw [if_pos hlt] at q
                  have q2' : H1 u = some (.lst vs) := (e1.keep u (List.mem_append_right _ (mem_owns q1)) (A.rel.ap u (mem_owns q1)).2).trans q2
                  have q3' := q3.same e1.same
                  have t2' : H1 t = some (.lst ws) := (e1.keep t (List.mem_append_right _ (mem_owns t1)) (A.rel.ap t (mem_owns t1)).2).trans t2
                  have t3' := t3.same e1.same
                  obtain ⟨w, hw, rw_⟩ := t3'.get ey
                  have el := t3'.length
                  obtain ⟨g1, g2, g3, g4⟩ := ixN_seq ep
                  have big : es.length ≤ 16777216 := hlt.2
                  obtain ⟨A2, st2⟩ := A1.mod f0 t1 (RpA.erase a t3')
                  have e0' : (ρ.set j (.own (es.eraseIdx a)))[i]? = some (.own ds) := by
                    rw [List.getElem?_set_ne (fun z => ij z.symm)]
                    exact e0
                  have ut : ¬ (u = t) := fun z => ij (owns_inj A.rel.nd q1 (by rw [z]; exact t1))
                  have q3'' := q3'.same st2.same
                  obtain ⟨A3, st3⟩ := A2.mod e0' q1 (RpA.app q3'' (.cons (rw_.same st2.same) .nil))
                  refine ⟨t, ws, z, a, w, rfl, rfl, t2', by omega, by omega, by rw [el]; exact g1, hw, ?_⟩
                  exact ⟨u, vs, w, rfl, rfl, by rw [upd_ne ut]; exact q2', by rw [q3'.length]; exact hlt.1, q _ _ _ (st2.trans st3) A3⟩
                · rw [if_neg hlt] at q
                  exact q.elim
          | _ => exact q.elim
end
end Pd
end
section
/-! Pd: loops, targets of several names. -/
namespace Pd
open PySem PySem.Spec PyProof.Rows L2
section
variable {g : G} {Φ : Nat → Fn} {Cn : List D} {k : Nat} {sc : Sk} {X : Cx} {W : WX} {β : Option Addr} {M0 : List Addr} {ms : List (Option Addr)} {H H1 : Hp} {σ : L2.St} {ρ : Env} {s : Bx} {D : Ends}
variable {c e tgE it : Expr} {st : Stmt} {sts : List Stmt} {ma mc : Env → M PyData} {mi : Env → M (List PyData)} {oa oc oi : Env → Bool} {mS : Env → SM} {pos p : Pos} {tg : Tg}
/-- a loop's turn -/
theorem PostS.turn {m : SM} {f : Env → SM} (h : PostS g Φ Cn k sc X W β M0 ms H (SM.turn m f s) D) (N : L2.St → Hp → Prop) (hn : ∀ ms' H' σ' ρ' s', Step β M0 ms H ms' H' → At g Φ Cn k sc X W β M0 ms' H' σ' ρ' s' → PostS g Φ Cn k sc X W β M0 ms' H' (f ρ' s') D → N σ' H') :
    PostS g Φ Cn k sc X W β M0 ms H (m s) { D with nx := N, ct := N, bk := D.nx } := by
  unfold SM.turn at h
  cases e : m s with
  | bad =>
    rw [e] at h
    exact h
  | exc c p ρ' s' =>
    rw [e] at h
    exact h
  | go fl ρ' s' =>
    rw [e] at h
    cases fl with
    | nx => exact fun ms' H' σ' z A => hn ms' H' σ' ρ' s' z A (PostS.from h z)
    | brk => exact h
    | ct => exact fun ms' H' σ' z A => hn ms' H' σ' ρ' s' z A (PostS.from h z)
    | ret d => exact h
theorem s_while (hc : SB g Φ Cn k sc c mc oc) (hb : SSs g Φ Cn k sc sts mS) : SS g Φ Cn k sc (.While c sts [] pos) (fun ρ => whL (fun ρ' => trM (mc ρ')) mS fuel ρ) := by
  intro X W β M0 ms H σ ρ s D A h
  refine wS.of (ps_while A.good.pso (wT_pt c) (wSs_ps sts)) ?_
  refine ⟨fun m σ H => ∃ ms ρ s, At g Φ Cn k sc X W β M0 ms H σ ρ s ∧ PostS g Φ Cn k sc X W β M0 ms H (whL (fun ρ' => trM (mc ρ')) mS m ρ s) D, ⟨fuel, ms, ρ, s, A, h⟩, ?_⟩
  rintro m σ1 H1 ⟨ms1, ρ1, s1, A1, q⟩
  cases m with
  | zero => exact q.elim
  | succ m =>
    refine hc.ts.use A1 ((PostS.lft (m := trM (mc ρ1)) q A1).imp fun b H2 s2 e2 q2 => ?_)
    cases b with
    | false => exact q2 ms1 H2 σ1 .refl (A1.ext e2)
    | true =>
      rw [if_pos rfl]
      rw [if_pos rfl] at q2
      refine ⟨fun σ' H' => ∃ ms ρ s, At g Φ Cn k sc X W β M0 ms H' σ' ρ s ∧ PostS g Φ Cn k sc X W β M0 ms H' (whL (fun ρ' => trM (mc ρ')) mS m ρ s) D, fun σ' H' z => ⟨m, Nat.lt_succ_self m, z⟩, ?_⟩
      exact hb X W β M0 ms1 H2 σ1 ρ1 s2 _ (A1.ext e2) (PostS.turn q2 _ fun ms' H' σ' ρ' s' _ A' q' => ⟨ms', ρ', s', A', q'⟩)
theorem bindTg_no {d : PyData} {ρ : Env} {s s' : Bx} {c : Nat} {p : Option PyData} (h : bindTg tg d ρ s = .exc c p s') : False := by
  cases tg with
  | nm i => cases h
  | tp is =>
    cases d with
    | tuple xs =>
      have h : Pd.M.ofOpt (bindAll is xs ρ) s = .exc c p s' := h
      cases q : bindAll is xs ρ with
      | none => rw [q] at h; cases h
      | some z => rw [q] at h; cases h
    | list xs =>
      have h : Pd.M.ofOpt (bindAll is xs ρ) s = .exc c p s' := h
      cases q : bindAll is xs ρ with
      | none => rw [q] at h; cases h
      | some z => rw [q] at h; cases h
    | _ => cases h
/-- a target in a statement -/
theorem tg_post {d : PyData} {f : Env → SM} {v : V} (ok : tgOk g sc tg tgE = true) (A : At g Φ Cn k sc X W β M0 ms H σ ρ s) (h : PostS g Φ Cn k sc X W β M0 ms H (Pd.lft ρ (bindTg tg d ρ) f s) D) (r : Rp X.K (hid (M0 ++ owns ms) H) v d) {Q : L2.St → Hp → Prop}
    (q : ∀ ms' σ' ρ', Step β M0 ms H ms' H → At g Φ Cn k sc X W β M0 ms' H σ' ρ' s → PostS g Φ Cn k sc X W β M0 ms' H (f ρ' s) D → Q σ' H) : wG X tgE v σ H Q := by
  unfold Pd.lft at h
  cases e : bindTg tg d ρ s with
  | bad =>
    rw [e] at h
    exact h.elim
  | exc c p s' => exact (bindTg_no e).elim
  | ok ρ' s' =>
    rw [e] at h
    have es : s' = s := (tg_run (Q := fun _ _ => True) ok A e r fun _ _ _ _ _ _ => trivial).1
    subst es
    exact (tg_run ok A e r fun ms' σ' A' sb _ _ => q ms' σ' ρ' (.fewer sb) A' (PostS.from h (.fewer sb))).2
theorem s_for (hi : SI g Φ Cn k sc tgE it mi oi) (ok : tgOk g sc tg tgE = true) (hb : SSs g Φ Cn k sc sts mS) : SS g Φ Cn k sc (.For tgE it sts [] pos) (fun ρ => if oi ρ then .bad else Pd.lft ρ (mi ρ) fun xs => frL tg mS xs ρ) := by
  intro X W β M0 ms H σ ρ s D A h
  refine wS.of (ps_for A.good.pso A.good.calm (wI_pi tgE it) (wG_pg tgE) (wSs_ps sts) fun x => hi.fs _ x) ?_
  have h : PostS g Φ Cn k sc X W β M0 ms H ((if oi ρ then SM.bad else Pd.lft ρ (mi ρ) fun xs => frL tg mS xs ρ) s) D := h
  cases eo : oi ρ with
  | true =>
    rw [eo] at h
    exact h.elim
  | false =>
    rw [eo] at h
    refine hi.run X W β M0 ms H σ ρ s _ A ((PostS.lft (m := mi ρ) h A).imp fun xs H1 s1 e1 q J S dw hS hO => ?_)
    have eS := hO eo
    subst eS
    have A1 := A.ext e1
    refine for_it dw (fun i σ' H' => ∃ ms' ρ' s', Step β M0 ms H1 ms' H' ∧ At g Φ Cn k sc X W β M0 ms' H' σ' ρ' s' ∧ PostS g Φ Cn k sc X W β M0 ms' H' (frL tg mS (xs.drop i) ρ' s') D) ⟨ms, ρ, s1, .refl, A1, by simpa using q⟩
      (fun i σ' H' hi' ⟨ms', ρ', s', z, A', q'⟩ => ⟨fun a u ha => hid_full a u (z.same a u ha), fun a ha => by cases ha⟩) (fun i x σ' H2 H3 hi' ⟨ms', ρ', s', z, A', q'⟩ y => ?_) fun σ' H' ⟨ms', ρ', s', z, A', q'⟩ => ?_
    · obtain ⟨d, ed, y⟩ := y
      have edrop : xs.drop i = d :: xs.drop (i + 1) := by
        have lt : i < xs.length := hi'
        rw [List.drop_eq_getElem_cons lt]
        have := List.getElem?_eq_getElem lt
        rw [ed] at this
        rw [Option.some.inj this]
      rw [edrop] at q'
      have T : ∃ A3 : At g Φ Cn k sc X W β M0 ms' H3 σ' ρ' s', Step β M0 ms' H2 ms' H3 ∧ Rp X.K (hid (M0 ++ owns ms') H3) x d := by
        rcases y with ⟨rfl, r⟩ | ⟨T, us, es, hT, rfl, rfl, rfl, r⟩
        · exact ⟨A', .refl, r.same z.same⟩
        · have e := Ext.new (o := .tup us) A'.box A'.liveA hT
          exact ⟨A'.ext e, .ext e, new_tup A'.liveA hT (r.same z.same)⟩
      obtain ⟨A3, z3, r3⟩ := T
      have q3 := PostS.from q' z3
      refine tg_post ok A3 q3 r3 fun ms4 σ4 ρ4 z4 A4 q4 => ?_
      exact hb X W β M0 ms4 H3 σ4 ρ4 s' _ A4 (PostS.turn q4 _ fun ms5 H5 σ5 ρ5 s5 z5 A5 q5 => ⟨ms5, ρ5, s5, ((z.trans z3).trans z4).trans z5, A5, q5⟩)
    · have ed : xs.drop xs.length = [] := List.drop_length
      rw [ed] at q'
      exact q' ms' H' σ' .refl A'
/-- one's own list is given away -/
theorem At.frz (A : At g Φ Cn k sc X W β M0 ms H σ ρ s) (o : Option Nat) : ∃ ms', At g Φ Cn k sc X W β M0 ms' H σ (freeze ρ o) s ∧ (owns ms').Sublist (owns ms) := by
  cases o with
  | none => exact ⟨ms, A, List.Sublist.refl _⟩
  | some i =>
    cases e : ρ[i]? with
    | none =>
      have ef : freeze ρ (some i) = ρ := by
        unfold freeze
        dsimp only
        rw [e]
      rw [ef]
      exact ⟨ms, A, List.Sublist.refl _⟩
    | some sl =>
      cases sl with
      | own ds =>
        have ef : freeze ρ (some i) = ρ.set i (.dat (.list ds)) := by
          unfold freeze
          dsimp only
          rw [e]
        rw [ef]
        obtain ⟨u, vs, q1, q2, q3, q4⟩ := A.rel.at_ i _ e
        have nO : u ∉ owns (ms.set i none) := fun z => by
          obtain ⟨j, ej⟩ := of_owns z
          rcases set_cases ej with ⟨_, _, h⟩ | ⟨ne, h⟩
          · cases h
          · exact ne (owns_inj A.rel.nd q1 h)
        have r : Rp X.K (hid (M0 ++ owns (ms.set i none)) H) (.ref u) (.list ds) := by
          refine .lst (hid_some.mpr ⟨fun z => ?_, q3⟩) (q4.same (hid_le (A.mem_none i)))
          rcases List.mem_append.mp z with z | z
          · exact (A.rel.ap u (mem_owns q1)).1 z
          · exact nO z
        have es : σ.set i (some (.ref u)) = σ := by
          apply List.ext_getElem?
          intro j
          by_cases ej : i = j
          · subst ej
            have lt : i < σ.length := (List.getElem?_eq_some_iff.mp q2).1
            rw [List.getElem?_set_self lt, q2]
          · rw [List.getElem?_set_ne ej]
        have S := A.rel.put r
        rw [es] at S
        exact ⟨ms.set i none, ⟨A.good, S, A.box, A.live, A.bin⟩, owns_none ms i⟩
      | _ =>
        have ef : freeze ρ (some i) = ρ := by
          unfold freeze
          dsimp only
          rw [e]
        rw [ef]
        exact ⟨ms, A, List.Sublist.refl _⟩
theorem s_frz {o : Option Nat} (h : SS g Φ Cn k sc st mS) : SS g Φ Cn k sc st (fun ρ => mS (freeze ρ o)) := by
  intro X W β M0 ms H σ ρ s D A q
  obtain ⟨ms', A', sb⟩ := A.frz o
  exact h X W β M0 ms' H σ (freeze ρ o) s D A' (PostS.from q (.fewer sb))
/-- a, b, .. = e -/
theorem s_asgT {es : List Expr} {kk : Nat} {tp : Pos} (ok : tgOk g sc tg (.Tuple es kk tp) = true) (he : SB g Φ Cn k sc e ma oa)
    (nt : ∀ env : PySem.Env, env.scope = sc.run → swappedStores [.Tuple es kk tp] e env = pure none) : SS g Φ Cn k sc (.Assign [.Tuple es kk tp] e pos) (fun ρ => if oa ρ then .bad else Pd.lft ρ (ma ρ) fun x => Pd.lft ρ (bindTg tg x ρ) fun ρ' => .go .nx ρ') := by
  intro X W β M0 ms H σ ρ s D A h
  have sw : swapsWithSole [.Tuple es kk tp] e pos.line X.env = pure false := by
    show swapsWith e (some (.Tuple es kk tp)) pos.line X.env = pure false
    cases e <;> rfl
  refine wS.of (ps_asg (wE_pe e) (wG_pg (.Tuple es kk tp)) sw (nt _ A.good.sc_)) ?_
  have h : PostS g Φ Cn k sc X W β M0 ms H ((if oa ρ then SM.bad else Pd.lft ρ (ma ρ) fun x => Pd.lft ρ (bindTg tg x ρ) fun ρ' => .go .nx ρ') s) D := h
  cases eo : oa ρ with
  | true =>
    rw [eo] at h
    exact h.elim
  | false =>
    rw [eo] at h
    refine he.ex.use A ((PostS.lft (m := ma ρ) h A).imp fun x H1 s1 e1 q v r r0 => ?_)
    exact tg_post ok (A.ext e1) q (r0 eo) fun ms' σ' ρ' z A' q' => q' ms' H1 σ' .refl A'
end
end Pd
end
section
/-! Pd: fresh lists; several names at once. -/
namespace Pd
open PySem PySem.Spec PyProof.Rows L2
section
variable (g : G) (Φ : Nat → Fn) (Cn : List D) (k : Nat) (sc : Sk)
/-- behind what gives a new list -/
def PostF (K : PySem.W.Frag) (mg : Str → Option Value) (W : WX) (σ : L2.St) (β : Option Addr) (M : List Addr) (H : Hp) (s : Bx) (r : Res D) (Q : VK) : Prop := match r with
  | .bad => False
  | .ok (.list ds) s' => ∀ p vs H2, Ext β M H s H2 s' → H p = none → H2 p = some (.lst vs) → RpA K (hid (p :: M) H2) vs ds → Q (.ref p) H2
  | .ok _ _ => False
  | .exc c p s' => ∀ cls dd H', Ext β M H s H' s' → ErrR K mg g M c p cls dd H' → W cls dd σ H'
/-- an expression that gives a new list -/
def SF (e : Expr) (m : Env → M D) : Prop := ∀ (X : Cx) (W : WX) (β : Option Addr) (M0 : List Addr) (ms : List (Option Addr)) (H : Hp) (σ : L2.St) (ρ : Env) (s : Bx) (Q : VK), At g Φ Cn k sc X W β M0 ms H σ ρ s →
  PostF g X.K X.mg W σ β (M0 ++ owns ms) H s (m ρ s) Q → wE X e σ H Q
end
section
variable {g : G} {Φ : Nat → Fn} {Cn : List D} {k : Nat} {sc : Sk} {X : Cx} {W : WX} {β : Option Addr} {M0 : List Addr} {ms : List (Option Addr)} {H H1 H2 : Hp} {σ : L2.St} {ρ : Env} {s s1 s2 : Bx} {Q : VK} {D : Ends}
variable {a b e : Expr} {es : List Expr} {ma mb : Env → M PyData} {oa ob : Env → Bool} {ml : Env → M (List PyData)} {pos p2 : Pos}
theorem PostF.from {K : PySem.W.Frag} {mg : Str → Option Value} {M : List Addr} {r : Res PyData} (h : PostF g K mg W σ β M H s r Q) (e : Ext β M H s H1 s1) (lv : Live M H) : PostF g K mg W σ β M H1 s1 r Q := by
  cases r with
  | bad => exact h
  | exc c p s' => exact fun cls dd H' x => h cls dd H' (e.trans x)
  | ok d s' =>
    cases d with
    | list ds =>
      intro p vs H2 x hp
      refine h p vs H2 (e.trans x) ?_
      cases q : H p with
      | none => rfl
      | some u =>
        by_cases hm : p ∈ M
        · obtain ⟨o, e1⟩ := e.live lv p hm
          rw [hp] at e1
          cases e1
        · have := e.same p u (hid_some.mpr ⟨hm, q⟩)
          rw [(hid_some.mp this).2] at hp
          cases hp
    | _ => exact h
theorem PostF.bind {K : PySem.W.Frag} {mg : Str → Option Value} {M : List Addr} {α : Type} {m : Pd.M α} {f : α → Pd.M PyData} (h : PostF g K mg W σ β M H s (Pd.M.bind m f s) Q) (lv : Live M H) : PostM K mg g W σ β M H s (m s) (fun a H' s' => PostF g K mg W σ β M H' s' (f a s') Q) := by
  unfold Pd.M.bind at h
  cases e : m s with
  | bad =>
    rw [e] at h
    exact h
  | ok a s' =>
    rw [e] at h
    exact fun H' x => PostF.from h x lv
  | exc c p s' =>
    rw [e] at h
    exact h
theorem new_here {K : PySem.W.Frag} {M : List Addr} {p : Addr} {vs : List V} {ds : List PyData} (b : BoxAt β H s) (lv : Live M H) (hp : H p = none) (r : RpA K (hid M H) vs ds) : Ext β M H s (upd H p (.lst vs)) s ∧ RpA K (hid (p :: M) (upd H p (.lst vs))) vs ds :=
  ⟨Ext.new b lv hp, by
    rw [hid_upd]
    exact r.same (same_D (Ext.refl b) hp)⟩
theorem f_lst (h : SL g Φ Cn k sc es ml) : SF g Φ Cn k sc (.List es pos) (fun ρ => .bind (ml ρ) ckLim) := by
  intro X W β M0 ms H σ ρ s Q A q
  refine wE.of (pe_lst (wA_pa es)) ?_
  refine h.use A ((PostF.bind q A.liveA).imp fun ds H1 s1 e1 h1 vs r => ?_)
  have A1 := A.ext e1
  unfold ckLim at h1
  by_cases hl : ds.length ≤ lim
  · rw [if_pos hl] at h1
    refine ⟨lt_lim r hl, fun u hu => ?_⟩
    obtain ⟨x, r2⟩ := new_here A1.box A1.liveA hu r
    exact h1 u vs _ x hu upd_same r2
  · rw [if_neg hl] at h1
    exact h1.elim
theorem add_list {x y : PyData} {ds : List PyData} (h : binD .Add x y = some (.list ds)) : ∃ xs ys, x = .list xs ∧ y = .list ys ∧ catL xs ys = some ds := by
  cases x with
  | list xs =>
    cases y with
    | list ys =>
      obtain ⟨zs, e1, e2⟩ := Option.map_eq_some_iff.mp h
      cases e2
      exact ⟨xs, ys, rfl, rfl, e1⟩
    | _ => cases h
  | tuple xs =>
    cases y with
    | tuple ys =>
      obtain ⟨zs, e1, e2⟩ := Option.map_eq_some_iff.mp h
      cases e2
    | _ => cases h
  | str xs =>
    cases y with
    | str ys =>
      have h : (if xs.length + ys.length ≤ lim then some (PyData.str (xs ++ ys)) else none) = some (.list ds) := h
      split at h <;> cases h
    | _ => cases h
  | _ => cases y <;> cases h
theorem f_add (ha : SB g Φ Cn k sc a ma oa) (hb : SB g Φ Cn k sc b mb ob) : SF g Φ Cn k sc (.BinOp a .Add b pos) (fun ρ => .bind (ma ρ) fun x => .bind (mb ρ) fun y => .ofOpt (binD .Add x y)) := by
  intro X W β M0 ms H σ ρ s Q A q
  refine wE.of (pe_op (op := .Add) (wOp_op _) (wE_pe a) (wE_pe b)) ?_
  refine ha.ex.use A ((PostF.bind q A.liveA).imp fun x H1 s1 e1 h1 v r1 _ => ?_)
  have A1 := A.ext e1
  refine hb.ex.use A1 ((PostF.bind h1 A1.liveA).imp fun y H2 s2 e2 h2 u r2 _ => ?_)
  have A2 := A1.ext e2
  have r1 := r1.ext e2.toKept
  cases eb : binD .Add x y with
  | none =>
    rw [eb] at h2
    exact h2.elim
  | some d =>
    rw [eb] at h2
    cases d with
    | list ds =>
      obtain ⟨xs, ys, rfl, rfl, e3⟩ := add_list eb
      unfold catL at e3
      split at e3
      · rename_i hl
        cases e3
        obtain ⟨p1, vs1, rfl, g1, g2⟩ := r1.list
        obtain ⟨p2, vs2, rfl, g3, g4⟩ := r2.list
        refine ⟨_, op_cat, p1, p2, vs1, vs2, rfl, rfl, g1, g3, by rw [g2.length, g4.length]; exact hl, fun w hw => ?_⟩
        obtain ⟨x, r5⟩ := new_here A2.box A2.liveA hw (RpA.app g2 g4)
        exact h2 w _ _ x hw upd_same r5
      · cases e3
    | _ => exact h2.elim
/-- a fresh list is hidden -/
theorem At.hide (A : At g Φ Cn k sc X W β M0 ms H σ ρ s) {p : Addr} {o : HO} (e : Ext β (M0 ++ owns ms) H s H1 s1) (hp : H p = none) (hp1 : H1 p = some o) : At g Φ Cn k sc X W β (p :: M0) ms H1 σ ρ s1 := by
  refine ⟨A.good, ⟨A.rel.len, fun j sl ej => ?_, A.rel.mlen, A.rel.nd, fun a ha => ⟨fun z => ?_, (A.rel.ap a ha).2⟩⟩, e.box, fun a ha => ?_, fun b hb => List.mem_cons_of_mem _ (A.bin b hb)⟩
  · have q := A.rel.at_ j sl ej
    cases sl with
    | un => exact q
    | dat d =>
      obtain ⟨q1, v, q2, q3⟩ := q
      exact ⟨q1, v, q2, q3.same (same_D e hp)⟩
    | scr ns =>
      obtain ⟨q1, v, q2, q3⟩ := q
      exact ⟨q1, v, q2, q3.same (same_D e hp)⟩
    | own ds =>
      obtain ⟨u, vs, q1, q2, q3, q4⟩ := q
      exact ⟨u, vs, q1, q2, (e.keep u (List.mem_append_right _ (mem_owns q1)) (A.rel.ap u (mem_owns q1)).2).trans q3, q4.same (same_D e hp)⟩
    | box => exact q
  · rcases List.mem_cons.mp z with rfl | z
    · obtain ⟨vs, e1⟩ := A.rel.ownLst ha
      rw [hp] at e1
      cases e1
    · exact (A.rel.ap a ha).1 z
  · rcases List.mem_cons.mp ha with rfl | ha
    · exact ⟨o, hp1⟩
    · exact e.live A.liveA a (List.mem_append_left _ ha)
/-- .. and becomes one's own -/
theorem At.take {p : Addr} (A : At g Φ Cn k sc X W β (p :: M0) ms H σ ρ s) (hb : β ≠ some p) (hbin : ∀ b, β = some b → b ∈ M0) (hn : p ∉ M0) {i : Nat} {vs : List V} {ds : List PyData} (hp : H p = some (.lst vs)) (r : RpA X.K (hid (p :: (M0 ++ owns ms)) H) vs ds) :
    At g Φ Cn k sc X W β M0 (ms.set i (some p)) H (σ.set i (some (.ref p))) (ρ.set i (.own ds)) s ∧ ∀ a ∈ M0 ++ owns (ms.set i (some p)), a ∈ p :: (M0 ++ owns ms) := by
  have sub : ∀ a ∈ M0 ++ owns (ms.set i (some p)), a ∈ p :: (M0 ++ owns ms) := fun a ha => by
    rcases List.mem_append.mp ha with z | z
    · exact List.mem_cons_of_mem _ (List.mem_append_left _ z)
    · rcases owns_some ms i p a z with z | z
      · rw [z]
        exact List.mem_cons_self
      · exact List.mem_cons_of_mem _ (List.mem_append_right _ z)
  have nO : p ∉ owns ms := fun z => (A.rel.ap p z).1 List.mem_cons_self
  refine ⟨⟨A.good, ⟨by simpa using A.rel.len, fun j sl e => ?_, by simpa using A.rel.mlen, owns_nd ms i p A.rel.nd nO, fun a ha => ?_⟩, A.box, fun a ha => A.live a (List.mem_cons_of_mem _ ha), hbin⟩, sub⟩
  · rcases set_cases e with ⟨rfl, lt, rfl⟩ | ⟨ne, e1⟩
    · refine ⟨p, vs, ?_, ?_, hp, r.same (hid_le sub)⟩
      · rw [List.getElem?_set_self (by rw [A.rel.mlen]; exact lt)]
      · rw [List.getElem?_set_self (by rw [A.rel.len]; exact lt)]
    · rw [List.getElem?_set_ne ne, List.getElem?_set_ne ne]
      exact (A.rel.at_ j sl e1).mono sub
  · rcases owns_some ms i p a ha with rfl | ha
    · exact ⟨hn, hb⟩
    · exact ⟨fun z => (A.rel.ap a ha).1 (List.mem_cons_of_mem _ z), (A.rel.ap a ha).2⟩

/-- some later heap with the box as it is to be -/
theorem Ext.some {M : List Addr} (b : BoxAt β H s) (hb : ∀ c, β = Option.some c → c ∈ M) : ∃ H', Ext β M H s H' s1 := by
  cases β with
  | none => exact ⟨H, Kept.refl, trivial⟩
  | some c =>
    refine ⟨upd H c (.lst [.int s1.a, .int s1.b, .int s1.c]), ⟨fun a u h => ?_, fun a ha hn => ?_⟩, upd_same⟩
    · obtain ⟨h1, h2⟩ := hid_some.mp h
      have ne : ¬ (a = c) := fun z => h1 (z ▸ hb c rfl)
      exact hid_some.mpr ⟨h1, by rw [upd_ne ne]; exact h2⟩
    · have ne : ¬ (a = c) := fun z => hn (by rw [z])
      exact upd_ne ne
/-! ### several at once -/
inductive PR (K : PySem.W.Frag) (M : List Addr) (H : Hp) : List Addr → List V → List PyData → List Bool → Prop
  | nil : PR K M H [] [] [] []
  | dat {v : V} {d : PyData} {ps : List Addr} {vs : List V} {ds : List PyData} {fs : List Bool} : Rp K (hid M H) v d → PR K M H ps vs ds fs → PR K M H ps (v :: vs) (d :: ds) (false :: fs)
  | own {p : Addr} {xs : List V} {es : List PyData} {ps : List Addr} {vs : List V} {ds : List PyData} {fs : List Bool} : H p = some (.lst xs) → RpA K (hid M H) xs es → PR K M H ps vs ds fs → PR K M H (p :: ps) (.ref p :: vs) (.list es :: ds) (true :: fs)
theorem PR.len {K : PySem.W.Frag} {M : List Addr} {ps : List Addr} {vs : List V} {ds : List PyData} {fs : List Bool} (r : PR K M H ps vs ds fs) : vs.length = fs.length := by
  induction r with
  | nil => rfl
  | dat h r ih => exact congrArg (· + 1) ih
  | own h h2 r ih => exact congrArg (· + 1) ih
theorem PR.hid {K : PySem.W.Frag} {M M' : List Addr} {ps : List Addr} {vs : List V} {ds : List PyData} {fs : List Bool} (h : ∀ a ∈ M', a ∈ M) (r : PR K M H ps vs ds fs) : PR K M' H ps vs ds fs := by
  induction r with
  | nil => exact .nil
  | dat h1 r ih => exact .dat (h1.same (hid_le h)) ih
  | own h1 h2 r ih => exact .own h1 (h2.same (hid_le h)) ih
/-- what is told of the fresh ones -/
structure Fre (β : Option Addr) (M0 : List Addr) (M : List Addr) (H : Hp) (ps : List Addr) : Prop where
  nd : ps.Nodup
  ap : ∀ p ∈ ps, p ∉ M0 ∧ β ≠ some p
  new : ∀ a u, Pd.hid M H a = some u → a ∉ ps
end
section
variable (g : G) (Φ : Nat → Fn) (Cn : List D) (k : Nat) (sc : Sk)
def SP (es : List Expr) (fs : List Bool) (m : Env → M (List D)) : Prop := ∀ (X : Cx) (W : WX) (β : Option Addr) (M0 : List Addr) (ms : List (Option Addr)) (H : Hp) (σ : L2.St) (ρ : Env) (s : Bx) (Q : List V → Hp → Prop), At g Φ Cn k sc X W β M0 ms H σ ρ s →
  PostM X.K X.mg g W σ β (M0 ++ owns ms) H s (m ρ s) (fun ds H2 s2 => ∀ ps vs, PR X.K (ps ++ (M0 ++ owns ms)) H2 ps vs ds fs → Fre β M0 (M0 ++ owns ms) H ps → At g Φ Cn k sc X W β (ps ++ M0) ms H2 σ ρ s2 → Q vs H2) → wA X es σ H Q
end
section
variable {g : G} {Φ : Nat → Fn} {Cn : List D} {k : Nat} {sc : Sk} {X : Cx} {W : WX} {β : Option Addr} {M0 : List Addr} {ms : List (Option Addr)} {H H1 H2 : Hp} {σ : L2.St} {ρ : Env} {s s1 s2 : Bx} {Q : VK} {D : Ends}
variable {a b e : Expr} {es : List Expr} {fs : List Bool} {ma mb : Env → M PyData} {oa ob : Env → Bool} {ml : Env → M (List PyData)} {pos p2 : Pos}
theorem sp_nil : SP g Φ Cn k sc [] [] (fun _ => .pure []) := fun X W β M0 ms H σ ρ s Q A h =>
  wA.of pa_nil (PostM.here h A.box [] [] .nil ⟨.nil, fun p z => (by cases z), fun a u _ z => by cases z⟩ A)
theorem fre_same {ps M : List Addr} (e : Ext β M H s H1 s1) (n : ∀ a u, Pd.hid M H a = some u → a ∉ ps) : Same (Pd.hid M H) (Pd.hid (ps ++ M) H1) := fun a u h => by
  obtain ⟨h1, h2⟩ := hid_some.mp h
  exact hid_some.mpr ⟨fun z => (List.mem_append.mp z).elim (n a u h) h1, (hid_some.mp (e.same a u h)).2⟩
theorem sp_dat (ha : SB g Φ Cn k sc a ma oa) (hr : SP g Φ Cn k sc es fs ml) : SP g Φ Cn k sc (a :: es) (false :: fs) (fun ρ => if oa ρ then .bad else .bind (ma ρ) fun x => .bind (ml ρ) fun xs => .pure (x :: xs)) := by
  intro X W β M0 ms H σ ρ s Q A h
  refine wA.of (pa_cons (wE_pe a) (wA_pa es) (plain_star ha.pl)) ?_
  have h : PostM X.K X.mg g W σ β (M0 ++ owns ms) H s ((if oa ρ then Pd.M.bad else .bind (ma ρ) fun x => .bind (ml ρ) fun xs => .pure (x :: xs)) s) (fun ds H2 s2 => ∀ ps vs, PR X.K (ps ++ (M0 ++ owns ms)) H2 ps vs ds (false :: fs) → Fre β M0 (M0 ++ owns ms) H ps → At g Φ Cn k sc X W β (ps ++ M0) ms H2 σ ρ s2 → Q vs H2) := h
  cases eo : oa ρ with
  | true =>
    rw [eo] at h
    exact h.elim
  | false =>
    rw [eo] at h
    refine ha.ex.use A (PostM.bind h |>.imp fun x H1 s1 e1 h1 v r1 r2 => ?_)
    have A1 := A.ext e1
    refine hr X W β M0 ms H1 σ ρ s1 _ A1 (h1.bind.imp fun xs H2 s2 e2 h2 ps vs r3 fr A2 => ?_)
    refine PostM.here h2 (A1.ext e2).box ps _ (.dat ((r2 eo).same (fre_same e2 fr.new)) r3) ⟨fr.nd, fr.ap, fun a u z => fr.new a u (e1.same a u z)⟩ A2
theorem sp_own (pl : plainE a = true) (ha : SF g Φ Cn k sc a ma) (hr : SP g Φ Cn k sc es fs ml) : SP g Φ Cn k sc (a :: es) (true :: fs) (fun ρ => .bind (frM (ma ρ)) fun x => .bind (ml ρ) fun xs => .pure (x :: xs)) := by
  intro X W β M0 ms H σ ρ s Q A h
  refine wA.of (pa_cons (wE_pe a) (wA_pa es) (plain_star pl)) ?_
  refine ha X W β M0 ms H σ ρ s _ A ?_
  have h : PostM X.K X.mg g W σ β (M0 ++ owns ms) H s (Pd.M.bind (Pd.M.bind (ma ρ) frD) (fun x => .bind (ml ρ) fun xs => .pure (x :: xs)) s) _ := h
  have h1 := (PostM.assoc h).bind
  revert h1
  cases em : ma ρ s with
  | bad => exact id
  | exc c p s' => exact id
  | ok x s1 =>
    intro h1
    cases x with
    | list ds =>
      intro p vs H1 e1 hp hp1 rp
      have h2 : PostM X.K X.mg g W σ β (M0 ++ owns ms) H1 s1 (Pd.M.bind (ml ρ) (fun xs => .pure (.list ds :: xs)) s1) _ := h1 H1 e1
      have A1 : At g Φ Cn k sc X W β (p :: M0) ms H1 σ ρ s1 := A.hide e1 hp hp1
      have hb := box_ne A.box hp
      have nM : p ∉ M0 := fun z => by
        obtain ⟨o, e⟩ := A.live p z
        rw [hp] at e
        cases e
      refine hr X W β (p :: M0) ms H1 σ ρ s1 _ A1 ?_
      have h3 := h2.bind
      revert h3
      cases em2 : ml ρ s1 with
      | bad => exact id
      | exc c q s2 =>
        intro h3 cls dd H2 e2 er
        refine h3 cls dd H2 (e2.less hb) ?_
        obtain ⟨ei, q1, q2, q3⟩ := er
        refine ⟨ei, q1, q2, ?_⟩
        revert q3
        cases ei.fld with
        | none => cases q <;> exact id
        | some f =>
          cases q with
          | none => exact id
          | some d => exact fun ⟨a, v, g1, g2, g3⟩ => ⟨a, v, g1, g2, g3.same (hid_le fun a ha => List.mem_cons_of_mem _ ha)⟩
      | ok xs s2 =>
        intro h3 H2 e2 ps us r3 fr A2
        have h4 := PostM.here (h3 H2 (e2.less hb)) (e2.less hb).box
        have ep : H2 p = some (.lst vs) := (e2.keep p List.mem_cons_self hb).trans hp1
        have mem : ∀ a, a ∈ (p :: ps) ++ (M0 ++ owns ms) ↔ a ∈ ps ++ ((p :: M0) ++ owns ms) := fun a => by simp only [List.mem_append, List.mem_cons, or_assoc, or_left_comm]
        have mem2 : ∀ a, a ∈ ps ++ (p :: M0) ↔ a ∈ p :: (ps ++ M0) := fun a => by simp only [List.mem_append, List.mem_cons, or_assoc, or_left_comm]
        refine h4 (p :: ps) _ (.own ep ?_ (r3.hid fun a ha => (mem a).mp ha)) ⟨List.nodup_cons.mpr ⟨fun z => (fr.ap p z).1 List.mem_cons_self, fr.nd⟩, fun a ha => ?_, fun a u z ha => ?_⟩ ?_
        · exact (rp.same (fre_same e2 fr.new)).same (hid_le fun a ha => (mem a).mp ha)
        · rcases List.mem_cons.mp ha with rfl | ha
          · exact ⟨nM, hb⟩
          · exact ⟨fun z => (fr.ap a ha).1 (List.mem_cons_of_mem _ z), (fr.ap a ha).2⟩
        · have z1 := same_D e1 hp a u z
          rcases List.mem_cons.mp ha with rfl | ha
          · exact (hid_some.mp z1).1 List.mem_cons_self
          · exact fr.new a u z1 ha
        · refine ⟨A2.good, ⟨A2.rel.len, fun j sl ej => (A2.rel.at_ j sl ej).mono fun a ha => ?_, A2.rel.mlen, A2.rel.nd, fun a ha => ⟨fun z => (A2.rel.ap a ha).1 ((mem2 a).mpr z), (A2.rel.ap a ha).2⟩⟩, A2.box, fun a ha => A2.live a ((mem2 a).mpr ha), fun b hb => (mem2 b).mp (A2.bin b hb)⟩
          rcases List.mem_append.mp ha with z | z
          · exact List.mem_append_left _ ((mem2 a).mpr z)
          · exact List.mem_append_right _ z
    | _ =>
      obtain ⟨H', e⟩ := Ext.some (M := M0 ++ owns ms) (s := s) (s1 := s1) A.box fun b e => List.mem_append_left _ (A.bin b e)
      exact (h1 H' e).elim
end
end Pd
end
section
/-! Pd: several names at once, the statements. -/
namespace Pd
open PySem PySem.Spec PyProof.Rows L2
section
variable {g : G} {Φ : Nat → Fn} {Cn : List D} {k : Nat} {sc : Sk} {X : Cx} {W : WX} {β : Option Addr} {M0 : List Addr} {ms : List (Option Addr)} {H H1 H2 : Hp} {σ : L2.St} {ρ ρ' : Env} {s s1 s2 : Bx} {Q : VK} {D : Ends}
variable {a b c e : Expr} {es : List Expr} {fs : List Bool} {ma mb : Env → M PyData} {oa ob : Env → Bool} {ml : Env → M (List PyData)} {pos p2 : Pos}
theorem par_run : ∀ {is : List (Nat × Bool)} {ps M0 M : List Addr} {vs : List V} {ds : List PyData} {σ : L2.St} {ρ : Env} {ms : List (Option Addr)}, PR X.K M H ps vs ds (is.map (·.2)) → setPar is ds ρ = some ρ' → At g Φ Cn k sc X W β (ps ++ M0) ms H σ ρ s →
    (∀ a ∈ (ps ++ M0) ++ owns ms, a ∈ M) → ps.Nodup → (∀ p ∈ ps, p ∉ M0 ∧ β ≠ some p) → (∀ b, β = some b → b ∈ M0) → ∃ ms', At g Φ Cn k sc X W β M0 ms' H (setAll (is.map (·.1)) vs σ) ρ' s ∧ ∀ a ∈ M0 ++ owns ms', a ∈ M
  | [], ps, M0, M, vs, ds, σ, ρ, ms, r, es, A, hm, nd, ap, hb => by
    cases r
    cases es
    exact ⟨ms, A, hm⟩
  | (i, false) :: is, ps, M0, M, _, _, σ, ρ, ms, .dat (v := v) (d := d) (vs := vs) (ds := ds) h r, es, A, hm, nd, ap, hb => by
    have A' : At g Φ Cn k sc X W β (ps ++ M0) (ms.set i none) H (σ.set i (some v)) (ρ.set i (.dat d)) s := A.put (h.same (hid_le hm))
    exact par_run (is := is) (ps := ps) (vs := vs) (ds := ds) (σ := σ.set i (some v)) (ρ := ρ.set i (.dat d)) (ms := ms.set i none) r es A' (fun a ha => hm a (sub_app (owns_none ms i) a ha)) nd ap hb
  | (i, true) :: is, _, M0, M, _, _, σ, ρ, ms, .own (p := p) (xs := xs) (es := el) (ps := ps) (vs := vs) (ds := ds) h h2 r, es, A, hm, nd, ap, hb => by
    have A0 : At g Φ Cn k sc X W β (p :: (ps ++ M0)) ms H σ ρ s := A
    have hn : p ∉ ps ++ M0 := fun z => (List.mem_append.mp z).elim (List.nodup_cons.mp nd).1 (ap p List.mem_cons_self).1
    obtain ⟨A', sub⟩ := A0.take (i := i) (ap p List.mem_cons_self).2 (fun b e => List.mem_append_right _ (hb b e)) hn h (h2.same (hid_le hm))
    exact par_run (is := is) (ps := ps) (vs := vs) (ds := ds) (σ := σ.set i (some (.ref p))) (ρ := ρ.set i (.own el)) (ms := ms.set i (some p)) r es A' (fun a ha => hm a (sub a ha)) (List.nodup_cons.mp nd).2 (fun q hq => ap q (List.mem_cons_of_mem _ hq)) hb
theorem lft_ok {α : Type} {m : Pd.M α} {f : α → SM} {y : α} (e : m s = .ok y s2) (h : PostS g Φ Cn k sc X W β M0 ms H (Pd.lft ρ m f s) D) : PostS g Φ Cn k sc X W β M0 ms H (f y s2) D := by
  unfold Pd.lft at h
  rw [e] at h
  exact h
/-- the stores of a statement -/
theorem par_post {is : List (Nat × Bool)} {ds : List PyData} {ps : List Addr} {vs : List V} (A : At g Φ Cn k sc X W β M0 ms H σ ρ s) (x : Ext β (M0 ++ owns ms) H s H2 s2) (r : PR X.K (ps ++ (M0 ++ owns ms)) H2 ps vs ds (is.map (·.2))) (fr : Fre β M0 (M0 ++ owns ms) H ps) (A2 : At g Φ Cn k sc X W β (ps ++ M0) ms H2 σ ρ s2)
    (q : PostS g Φ Cn k sc X W β M0 ms H2 ((match setPar is ds ρ with
      | some ρ' => SM.go .nx ρ'
      | none => SM.bad) s2) D) (st : Step β M0 ms H ms H2) (h : PostS g Φ Cn k sc X W β M0 ms H ((match setPar is ds ρ with
      | some ρ' => SM.go .nx ρ'
      | none => SM.bad) s2) D) : D.nx (setAll (is.map (·.1)) vs σ) H2 := by
  cases e : setPar is ds ρ with
  | none =>
    rw [e] at q
    exact q.elim
  | some ρ' =>
    rw [e] at h
    have hm : ∀ a ∈ (ps ++ M0) ++ owns ms, a ∈ ps ++ (M0 ++ owns ms) := fun a ha => by
      rw [List.append_assoc] at ha
      exact ha
    obtain ⟨ms', A3, sub⟩ := par_run r e A2 hm fr.nd fr.ap A.bin
    refine h ms' H2 _ ⟨fun a u z => ?_, fun a ha hb => x.keep a (List.mem_append_left _ ha) hb⟩ A3
    obtain ⟨h1, h2⟩ := hid_some.mp (fre_same x fr.new a u z)
    exact hid_some.mpr ⟨fun w => h1 (sub a w), h2⟩
theorem s_par2 {i j : Nat} {x y : Str} {px py pt : Pos} {kt k2 : Nat} {pt2 : Pos} {f1 f2 : Bool} (hi : nmOk g sc i x = true) (hj : nmOk g sc j y = true) (hij : i ≠ j) (hx : sc.run.names.lookup x = some .local) (hy : sc.run.names.lookup y = some .local) (he : SP g Φ Cn k sc [a, b] [f1, f2] ml)
    (hw : ∀ env : PySem.Env, env.scope = sc.run → swappedStores [.Tuple [.Name x px, .Name y py] kt pt] (.Tuple [a, b] k2 pt2) env = pure (some [x, y])) :
    SS g Φ Cn k sc (.Assign [.Tuple [.Name x px, .Name y py] kt pt] (.Tuple [a, b] k2 pt2) pos) (fun ρ => Pd.lft ρ (ml ρ) fun xs => match setPar [(i, f1), (j, f2)] xs ρ with
      | some ρ' => .go .nx ρ'
      | none => .bad) := by
  intro X W β M0 ms H σ ρ s D A h
  refine wS.of (ps_par A.good.calm A.good.nd (A.good.loc hi).1 (A.good.loc hj).1 hij (by rw [A.good.sc_]; exact hx) (by rw [A.good.sc_]; exact hy) (wA_pa [a, b]) (hw _ A.good.sc_) rfl) ?_
  refine he X W β M0 ms H σ ρ s _ A ?_
  have h2 := PostS.lft (m := ml ρ) h A
  revert h2
  cases em : ml ρ s with
  | bad => exact id
  | exc c p s' => exact id
  | ok ds s2 =>
    intro h2 H2 x ps vs r fr A2
    have h := lft_ok (m := ml ρ) em h
    have q := par_post (is := [(i, f1), (j, f2)]) A x r fr A2 (h2 H2 x) (.ext x) h
    have l := r.len
    match vs, l, q with
    | [v, w], _, q => exact ⟨v, w, rfl, q⟩
theorem s_par3 {i j l : Nat} {x y z : Str} {px py pz pt : Pos} {kt k2 : Nat} {pt2 : Pos} {f1 f2 f3 : Bool} (hi : nmOk g sc i x = true) (hj : nmOk g sc j y = true) (hl : nmOk g sc l z = true) (hij : i ≠ j) (hil : i ≠ l) (hjl : j ≠ l)
    (hx : sc.run.names.lookup x = some .local) (hy : sc.run.names.lookup y = some .local) (hz : sc.run.names.lookup z = some .local) (he : SP g Φ Cn k sc [a, b, c] [f1, f2, f3] ml)
    (hw : ∀ env : PySem.Env, env.scope = sc.run → swappedStores [.Tuple [.Name x px, .Name y py, .Name z pz] kt pt] (.Tuple [a, b, c] k2 pt2) env = pure (some [x, y, z])) :
    SS g Φ Cn k sc (.Assign [.Tuple [.Name x px, .Name y py, .Name z pz] kt pt] (.Tuple [a, b, c] k2 pt2) pos) (fun ρ => Pd.lft ρ (ml ρ) fun xs => match setPar [(i, f1), (j, f2), (l, f3)] xs ρ with
      | some ρ' => .go .nx ρ'
      | none => .bad) := by
  intro X W β M0 ms H σ ρ s D A h
  refine wS.of (ps_par3 A.good.calm A.good.nd (A.good.loc hi).1 (A.good.loc hj).1 (A.good.loc hl).1 hij hil hjl (by rw [A.good.sc_]; exact hx) (by rw [A.good.sc_]; exact hy) (by rw [A.good.sc_]; exact hz) (wA_pa [a, b, c]) (hw _ A.good.sc_) rfl) ?_
  refine he X W β M0 ms H σ ρ s _ A ?_
  have h2 := PostS.lft (m := ml ρ) h A
  revert h2
  cases em : ml ρ s with
  | bad => exact id
  | exc c p s' => exact id
  | ok ds s2 =>
    intro h2 H2 xx ps vs r fr A2
    have h := lft_ok (m := ml ρ) em h
    have q := par_post (is := [(i, f1), (j, f2), (l, f3)]) A xx r fr A2 (h2 H2 xx) (.ext xx) h
    have l := r.len
    match vs, l, q with
    | [v, w, u], _, q => exact ⟨v, w, u, rfl, q⟩
/-- by way of the tuple -/
theorem s_parT {is : List (Nat × Bool)} {ts : List Expr} {pt : Pos} {kt k2 : Nat} {pt2 : Pos} (hn : tgNames g sc (is.map (·.1)) ts = true) (he : SP g Φ Cn k sc es (is.map (·.2)) ml) (hlen : is.length ≤ 1000)
    (hw : ∀ env : PySem.Env, env.scope = sc.run → swappedStores [.Tuple ts kt pt] (.Tuple es k2 pt2) env = pure none) :
    SS g Φ Cn k sc (.Assign [.Tuple ts kt pt] (.Tuple es k2 pt2) pos) (fun ρ => Pd.lft ρ (ml ρ) fun xs => match setPar is xs ρ with
      | some ρ' => .go .nx ρ'
      | none => .bad) := by
  intro X W β M0 ms H σ ρ s D A h
  obtain ⟨h1, h2, h3⟩ := pgs_all A.good hn
  refine wS.of (ps_asg (pe_tup (x1 := k2) (pos := pt2) (wA_pa es)) (pg_tup (pos := pt) (k := kt) A.good.calm h1 h2 h3) rfl (hw _ A.good.sc_)) ?_
  refine he X W β M0 ms H σ ρ s _ A ?_
  have h2 := PostS.lft (m := ml ρ) h A
  revert h2
  cases em : ml ρ s with
  | bad => exact id
  | exc c p s' => exact id
  | ok ds s2 =>
    intro hq H2 xx ps vs r fr A2
    have h := lft_ok (m := ml ρ) em h
    have l := r.len
    have l2 : vs.length = (is.map (·.1)).length := by
      rw [l]
      simp
    have big : vs.length ≤ sizeLine := by
      rw [l]
      simp only [List.length_map]
      have : (1000 : Nat) ≤ sizeLine := by decide
      omega
    refine ⟨big, fun T hT => ?_⟩
    have A1 := A.ext xx
    have x3 : Ext β (ps ++ (M0 ++ owns ms)) H2 s2 (upd H2 T (.tup vs)) s2 := by
      have lv : Live (ps ++ (M0 ++ owns ms)) H2 := fun a ha => A2.liveA a (by rw [List.append_assoc]; exact ha)
      exact Ext.new xx.box lv hT
    have x4 : Ext β (M0 ++ owns ms) H2 s2 (upd H2 T (.tup vs)) s2 := Ext.new xx.box A1.liveA hT
    have A4 : At g Φ Cn k sc X W β (ps ++ M0) ms (upd H2 T (.tup vs)) σ ρ s2 := A2.ext (by rw [List.append_assoc]; exact x3)
    have r4 : PR X.K (ps ++ (M0 ++ owns ms)) (upd H2 T (.tup vs)) ps vs ds (is.map (·.2)) := by
      have go : ∀ {qs : List Addr} {us : List V} {es : List PyData} {fs : List Bool}, PR X.K (ps ++ (M0 ++ owns ms)) H2 qs us es fs → PR X.K (ps ++ (M0 ++ owns ms)) (upd H2 T (.tup vs)) qs us es fs := fun r => by
        induction r with
        | nil => exact .nil
        | dat h r ih => exact .dat (h.same x3.same) ih
        | own h h2 r ih =>
          refine .own ?_ (h2.same x3.same) ih
          rw [upd_ne (ne_of_none h hT)]
          exact h
      exact go r
    have q := par_post (is := is) A (xx.trans x4) r4 fr A4 (PostS.from (hq H2 xx) (.ext x4)) (.ext (xx.trans x4)) h
    exact ⟨T, vs, rfl, .inl (.inl upd_same), l2, gAll_run l2 q⟩
/-- a new list under a name -/
theorem s_ownF {i : Nat} {x : Str} {p : Pos} (hn : nmOk g sc i x = true) (nc : notComp e = true) (he : SF g Φ Cn k sc e ma) : SS g Φ Cn k sc (.Assign [.Name x p] e pos) (fun ρ => Pd.lft ρ (ma ρ) fun y => match y with
    | .list ds => .go .nx (ρ.set i (.own ds))
    | _ => .bad) := by
  intro X W β M0 ms H σ ρ s D A h
  obtain ⟨h1, h2, h3⟩ := A.good.loc hn
  refine wS.of (ps_set A.good.nd h1 h2 (wE_pe e) (noswap nc) h3) ?_
  refine he X W β M0 ms H σ ρ s _ A ?_
  have h2 := PostS.lft (m := ma ρ) h A
  revert h2
  cases em : ma ρ s with
  | bad => exact id
  | exc c p s' => exact id
  | ok y s2 =>
    intro hq
    have h := lft_ok (m := ma ρ) em h
    cases y with
    | list ds =>
      intro p vs H2 x hp hp2 r
      have hb := box_ne A.box hp
      have nM : p ∉ M0 := fun z => by
        obtain ⟨o, e⟩ := A.live p z
        rw [hp] at e
        cases e
      obtain ⟨A3, sub⟩ := (A.hide x hp hp2).take (i := i) hb A.bin nM hp2 r
      refine h _ H2 _ ⟨fun a u z => ?_, fun a ha hb => x.keep a (List.mem_append_left _ ha) hb⟩ A3
      obtain ⟨z1, z2⟩ := hid_some.mp (same_D x hp a u z)
      exact hid_some.mpr ⟨fun w => z1 (sub a w), z2⟩
    | _ => exact h.elim
end
end Pd
end
section
/-! Pd: further expressions that give a new list. -/
namespace Pd
open PySem PySem.Spec PyProof.Rows L2
section
variable {g : G} {Φ : Nat → Fn} {Cn : List D} {k : Nat} {sc : Sk} {X : Cx} {W : WX} {β : Option Addr} {M0 : List Addr} {ms : List (Option Addr)} {H H1 H2 : Hp} {σ : L2.St} {ρ : Env} {s s1 s2 : Bx} {Q : VK} {D : Ends}
variable {a b e : Expr} {es : List Expr} {ma mb : Env → M PyData} {oa ob : Env → Bool} {ml : Env → M (List PyData)} {pos p2 p : Pos}
/-- list(a) -/
theorem f_list (hf : ("list" : Str) ∈ g.free) (hg : gloB sc.run "list" = true) (ha : SB g Φ Cn k sc a ma oa) : SF g Φ Cn k sc (.Call (.Name "list" p) [a] [] pos) (fun ρ => .bind (ma ρ) fun x => .ofOpt (biD .list x)) := by
  intro X W β M0 ms H σ ρ s Q A q
  have st : starEach [a] X.env = (false, eval a X.env) :: starEach [] X.env := plain_star ha.pl
  refine wE.of (pe_callTy (call_list_of) (A.good.glo hg) (A.good.none hf) rfl (pa_cons (wE_pe a) pa_nil st) (okN_n rfl) (okN_d rfl) st rfl) ?_
  refine ha.ex.use A ((PostF.bind q A.liveA).imp fun x H1 s1 e1 h1 v r1 _ => ?_)
  have A1 := A.ext e1
  cases x with
  | list xs =>
    obtain ⟨p, vs, rfl, g1, r⟩ := r1.list
    refine ⟨p, vs, rfl, .inl (.inl (.inl g1)), fun u hu => ?_⟩
    obtain ⟨x, r2⟩ := new_here A1.box A1.liveA hu r
    exact h1 u vs _ x hu upd_same r2
  | tuple xs =>
    obtain ⟨p, vs, rfl, g0, g1, r⟩ := r1.tuple
    refine ⟨p, vs, rfl, .inr g1, fun u hu => ?_⟩
    obtain ⟨x, r2⟩ := new_here A1.box A1.liveA hu r
    exact h1 u vs _ x hu upd_same r2
  | _ => exact h1.elim
/-- a or b -/
theorem f_or {a0 : Expr} (pl : plainE a0 = true) (hl : ∀ ρ s d s', ma ρ s = .ok d s' → ∃ ds, d = .list ds) (ha : SF g Φ Cn k sc a0 ma) (hb : SF g Φ Cn k sc b mb) : SF g Φ Cn k sc (.BoolOp .Or [a0, b] pos) (fun ρ => .bind (ma ρ) fun x => .bind (.ofOpt (truth x)) fun k => if k then .pure x else mb ρ) := by
  intro X W β M0 ms H σ ρ s Q A q
  refine wE.of (pe_orT (wE_pe a0) (wE_pe _)) ?_
  refine ha X W β M0 ms H σ ρ s _ A ?_
  have q : PostF g X.K X.mg W σ β (M0 ++ owns ms) H s (Pd.M.bind (ma ρ) (fun x => .bind (.ofOpt (truth x)) fun k => if k then .pure x else mb ρ) s) Q := q
  have q1 := PostF.bind q A.liveA
  unfold Pd.M.bind at q
  cases e : ma ρ s with
  | bad =>
    rw [e] at q1
    exact q1
  | exc c p s' =>
    rw [e] at q1
    exact q1
  | ok d s1 =>
    rw [e] at q1 q
    obtain ⟨ds, rfl⟩ := hl ρ s d s1 e
    intro p vs H2 x hp hp2 r
    have h1 := q1 H2 x
    refine ⟨!vs.isEmpty, .inl ⟨vs, .inl (.inl hp2), rfl⟩, ?_⟩
    have em : vs.isEmpty = ds.isEmpty := r.nil_iff
    have tr : truth (.list ds) = some (!ds.isEmpty) := rfl
    cases he : ds.isEmpty with
    | true =>
      rw [em, he]
      have h1 : PostF g X.K X.mg W σ β (M0 ++ owns ms) H2 s1 (mb ρ s1) Q := by
        dsimp only at h1
        rw [tr, he] at h1
        exact h1
      exact wE.of (pe_one (wE_pe b)) (hb X W β M0 ms H2 σ ρ s1 Q (A.ext x) h1)
    | false =>
      rw [em, he]
      have q : PostF g X.K X.mg W σ β (M0 ++ owns ms) H s (.ok (.list ds) s1) Q := by
        dsimp only at q
        rw [tr, he] at q
        exact q
      exact q p vs H2 x hp hp2 r
end
end Pd
end
section
/-! Pd: items are set: of the box, of a list of one's own. -/
namespace Pd
open PySem PySem.Spec PyProof.Rows L2
section
variable {g : G} {Φ : Nat → Fn} {Cn : List D} {k : Nat} {sc : Sk} {X : Cx} {W : WX} {β : Option Addr} {M0 : List Addr} {ms : List (Option Addr)} {H : Hp} {σ : L2.St} {ρ : Env} {s : Bx} {D : Ends}
variable {a e : Expr} {ma mb : Env → M PyData} {oa ob : Env → Bool} {pos p : Pos}
theorem sole_sub {o i e : Expr} {sp : Pos} {l : Nat} {env : PySem.Env} : swapsWithSole [.Subscript o i sp] e l env = pure false := by
  show swapsWith e (some (.Subscript o i sp)) l env = pure false
  cases e <;> rfl
theorem none_sub {o i e : Expr} {sp : Pos} {env : PySem.Env} : swappedStores [.Subscript o i sp] e env = pure none := by
  cases e <;> rfl
theorem bsetX {M : List Addr} {b : Addr} {s' : Bx} {o : List V} (hb : b ∈ M) (eo : o = [.int s'.a, .int s'.b, .int s'.c]) : Ext (Option.some b) M H s (upd H b (.lst o)) s' := by
  subst eo
  refine ⟨⟨fun a u h => ?_, fun a ha hn => ?_⟩, upd_same⟩
  · obtain ⟨h1, h2⟩ := hid_some.mp h
    have ne : ¬ (a = b) := fun z => h1 (z ▸ hb)
    exact hid_some.mpr ⟨h1, by rw [upd_ne ne]; exact h2⟩
  · have ne : ¬ (a = b) := fun z => hn (by rw [z])
    exact upd_ne ne
theorem s_bset {i j : Nat} {x : Str} {px pj sp : Pos} {jj : Nat} (hj : j < 3) (hN : g.N[i]? = some x) (hv : visB sc.run x = true) (ok : okN x = true) (he : SB g Φ Cn k sc e ma oa) :
    SS g Φ Cn k sc (.Assign [.Subscript (.Name x px) (.Constant (.int j) jj pj) sp] e pos) (fun ρ => if oa ρ then .bad else Pd.lft ρ (ma ρ) fun y => bsetD ρ i j y) := by
  intro X W β M0 ms H σ ρ s D A h
  refine wS.of (ps_asg (wE_pe e) (pg_sub (pe_var (i := i) (by rw [A.good.nm]; exact hN) (A.good.vis hv) (okN_d ok) (okN_c ok)) (pe_int (i := j)) set_list) sole_sub none_sub) ?_
  have h : PostS g Φ Cn k sc X W β M0 ms H ((if oa ρ then SM.bad else Pd.lft ρ (ma ρ) fun y => bsetD ρ i j y) s) D := h
  cases eo : oa ρ with
  | true =>
    rw [eo] at h
    exact h.elim
  | false =>
    rw [eo] at h
    refine he.ex.use A ((PostS.lft (m := ma ρ) h A).imp fun y H1 s1 e1 q v r ry => ?_)
    have A1 := A.ext e1
    unfold bsetD at q
    split at q
    · rename_i n hs
      obtain ⟨q1, b, rfl, q2⟩ := A1.rel.at_ i _ hs
      cases r.int
      have hb : H1 b = some (.lst [.int s1.a, .int s1.b, .int s1.c]) := A1.box
      have mb : b ∈ M0 ++ owns ms := List.mem_append_left _ (A1.bin b rfl)
      show ∃ v, σ[i]? = some (some v) ∧ _
      refine ⟨_, q2, ?_⟩
      match j, hj, q with
      | 0, _, q =>
        have x2 := bsetX (H := H1) (s := s1) (s' := ⟨n, s1.b, s1.c⟩) mb rfl
        exact ⟨b, _, 0, 0, rfl, rfl, hb, rfl, q ms _ σ (.ext x2) (A1.ext x2)⟩
      | 1, _, q =>
        have x2 := bsetX (H := H1) (s := s1) (s' := ⟨s1.a, n, s1.c⟩) mb rfl
        exact ⟨b, _, 1, 1, rfl, rfl, hb, rfl, q ms _ σ (.ext x2) (A1.ext x2)⟩
      | 2, _, q =>
        have x2 := bsetX (H := H1) (s := s1) (s' := ⟨s1.a, s1.b, n⟩) mb rfl
        exact ⟨b, _, 2, 2, rfl, rfl, hb, rfl, q ms _ σ (.ext x2) (A1.ext x2)⟩
    · exact q.elim
theorem s_seti {i : Nat} {x : Str} {px sp : Pos} {ix : Expr} (hN : g.N[i]? = some x) (hv : visB sc.run x = true) (ok : okN x = true) (hk : SB g Φ Cn k sc ix mb ob) (he : SB g Φ Cn k sc e ma oa) :
    SS g Φ Cn k sc (.Assign [.Subscript (.Name x px) ix sp] e pos) (fun ρ => if oa ρ then .bad else match atOwn ρ i with
      | some ds => Pd.lft ρ (ma ρ) fun y => Pd.lft ρ (mb ρ) fun n => match n with
        | .int z => (match place ds.length z with
          | some q => .go .nx (ρ.set i (.own (ds.set q y)))
          | none => .bad)
        | _ => .bad
      | none => .bad) := by
  intro X W β M0 ms H σ ρ s D A h
  refine wS.of (ps_asg (wE_pe e) (pg_sub (wE_pe (.Name x px)) (wE_pe ix) set_list (fun v => ?_)) sole_sub none_sub) ?_
  · have pl := hk.pl
    cases ix <;> first | rfl | cases pl
  · have h : PostS g Φ Cn k sc X W β M0 ms H ((if oa ρ then SM.bad else match atOwn ρ i with
      | some ds => Pd.lft ρ (ma ρ) fun y => Pd.lft ρ (mb ρ) fun n => match n with
        | .int z => (match place ds.length z with
          | some q => .go .nx (ρ.set i (.own (ds.set q y)))
          | none => .bad)
        | _ => .bad
      | none => .bad) s) D := h
    cases eo : oa ρ with
    | true =>
      rw [eo] at h
      exact h.elim
    | false =>
      rw [eo] at h
      cases ea : atOwn ρ i with
      | none =>
        rw [ea] at h
        exact h.elim
      | some ds =>
        rw [ea] at h
        have e0 := atOwn_some ea
        refine he.ex.use A ((PostS.lft (m := ma ρ) h A).imp fun y H1 s1 e1 q v r r0 => ?_)
        have A1 := A.ext e1
        refine own_at hN hv ok A1 e0 fun u vs q1 q2 q3 => ?_
        refine hk.ex.use A1 ((PostS.lft (m := mb ρ) q A1).imp fun n H2 s2 e2 qq w rw_ _ => ?_)
        have A2 := A1.ext e2
        cases n with
        | int z =>
          cases rw_.int
          dsimp only at qq
          cases ep : place ds.length z with
          | none =>
            rw [ep] at qq
            exact qq.elim
          | some t =>
            rw [ep] at qq
            have q2' : H2 u = some (.lst vs) := (e2.keep u (List.mem_append_right _ (mem_owns q1)) (A1.rel.ap u (mem_owns q1)).2).trans q2
            have q3' := q3.same e2.same
            refine ⟨u, vs, z, t, rfl, rfl, q2', by rw [q3'.length]; exact ep, ?_⟩
            obtain ⟨A3, st⟩ := A2.mod e0 q1 (RpA.set ((r0 eo).same e2.same) t q3')
            exact qq _ _ _ st A3
        | _ => exact qq.elim
end
end Pd
end
section
/-! Pd: list comprehensions, two clauses. -/
namespace Pd
open PySem PySem.Spec PyProof.Rows L2
section
variable {g : G} {Φ : Nat → Fn} {Cn : List D} {k : Nat} {sc : Sk} {X : Cx} {W : WX} {β : Option Addr} {M0 : List Addr} {ms : List (Option Addr)} {H H' H1 H2 : Hp} {σ : L2.St} {ρ : Env} {s s' : Bx} {Q R : VK} {scope : Scope}
/-- kept, whatever becomes of the new list -/
structure KD (β : Option Addr) (M : List Addr) (D : Addr) (H H' : Hp) : Prop where
  same : Same (hid (D :: M) H) (hid (D :: M) H')
  keep : ∀ a ∈ M, β ≠ some a → H' a = H a
theorem KD.refl {M : List Addr} {D : Addr} : KD β M D H H := ⟨Same.refl _, fun _ _ _ => rfl⟩
theorem KD.trans {M : List Addr} {D : Addr} (a : KD β M D H H1) (b : KD β M D H1 H2) : KD β M D H H2 := ⟨a.same.trans b.same, fun x hx hb => (b.keep x hx hb).trans (a.keep x hx hb)⟩
theorem KD.ext {M : List Addr} {D : Addr} (e : Ext β (D :: M) H s H' s') : KD β M D H H' := ⟨e.same, fun a ha hb => e.keep a (List.mem_cons_of_mem _ ha) hb⟩
theorem KD.upd {M : List Addr} {D : Addr} {o : HO} (hD : D ∉ M) : KD β M D H (upd H D o) := ⟨by rw [hid_upd]; exact Same.refl _, fun a ha _ => by
  have ne : ¬ (a = D) := fun z => hD (z ▸ ha)
  exact upd_ne ne⟩
theorem SRel.kd {D : Addr} (S : SRel X.K β (D :: M0) ms H σ ρ) (e : KD β (M0 ++ owns ms) D H H') : SRel X.K β (D :: M0) ms H' σ ρ := by
  refine ⟨S.len, fun i sl ei => ?_, S.mlen, S.nd, S.ap⟩
  have q := S.at_ i sl ei
  cases sl with
  | un => exact q
  | dat d =>
    obtain ⟨q1, v, q2, q3⟩ := q
    exact ⟨q1, v, q2, q3.same e.same⟩
  | scr ns =>
    obtain ⟨q1, v, q2, q3⟩ := q
    exact ⟨q1, v, q2, q3.same e.same⟩
  | own ds =>
    obtain ⟨p, vs, q1, q2, q3, q4⟩ := q
    exact ⟨p, vs, q1, q2, (e.keep p (List.mem_append_right _ (mem_owns q1)) (S.ap p (mem_owns q1)).2).trans q3, q4.same e.same⟩
  | box => exact q
theorem SRel.wipe0 {own : List Nat} (S : SRel X.K β M0 ms H σ ρ) (ho : anyOwn ρ own = false) : SRel X.K β M0 ms H (wipe σ own) (wipeE ρ own) := by
  refine ⟨by rw [wipe_length, wipeE_len, S.len], fun j sl ej => ?_, by rw [wipeE_len, S.mlen], S.nd, S.ap⟩
  rcases wipeE_get own ρ j sl ej with ⟨h1, rfl, h3⟩ | ⟨h1, h2⟩
  · have nn := own_ms S (anyOwn_no ho j h1)
    show ms[j]? = some none
    have lt : j < ms.length := by
      rw [S.mlen]
      exact h3
    rw [List.getElem?_eq_getElem lt]
    cases q : ms[j] with
    | none => rfl
    | some p => exact (nn p (by rw [List.getElem?_eq_getElem lt, q])).elim
  · rw [wipe_out h1]
    exact S.at_ j sl h2
theorem uI_use {tg it : Expr} {m : Env → M (List D)} {o : Env → Bool} {xs : List D} {R : L2.It → Hp → Prop} (h : SI g Φ Cn k (bSk sc scope) tg it m o) (A : BAt g Φ Cn k sc X scope β M0 ms H σ ρ s) (em : m ρ s = .ok xs s') (eo : o ρ = false)
    (q : ∀ J H', Ext β (M0 ++ owns ms) H s H' s' → DW X.K (M0 ++ owns ms) H' [] xs J → R J H') : uI X scope tg it σ H R := fun s0 H0 C cl fp => by
  refine h.run _ _ _ _ _ _ _ _ _ _ (A s0 H0 C cl fp) ?_
  rw [em]
  intro H' x J S dw _ hO
  have e := hO eo
  subst e
  exact q J H' x dw
theorem comp2_core {tg tg1 : Tg} {tgE it tg1E it1 e : Expr} {ifs ifs1 : List Expr} {own own1 : List Nat} {mi mi1 : Env → M (List PyData)} {oi oi1 : Env → Bool} {mc mc1 : Env → M Bool} {me : Env → M PyData} {oe : Env → Bool}
    (hi : SI g Φ Cn k sc tgE it mi oi) (ok : tgOk g (bSk sc scope) tg tgE = true) (sub : ∀ i ∈ tgSlots tg, i ∈ own) (hc : SC g Φ Cn k (bSk sc scope) ifs mc)
    (hi1 : SI g Φ Cn k (bSk sc scope) tg1E it1 mi1 oi1) (ok1 : tgOk g (bSk sc scope) tg1 tg1E = true) (sub1 : ∀ i ∈ tgSlots tg1, i ∈ own1) (hc1 : SC g Φ Cn k (bSk sc scope) ifs1 mc1) (he : SB g Φ Cn k (bSk sc scope) e me oe)
    (A : At g Φ Cn k sc X W β M0 ms H σ ρ s)
    (h : PostE X.K X.mg g W σ β (M0 ++ owns ms) H s false (Pd.M.bind (mi ρ) (fun xs => if anyOwn ρ own then .bad else .bind (M.quiet (collect2 (turnF2 tg own mc oi1 mi1 tg1 own1 mc1 me oe ρ) xs)) ckLim) s) Q) :
    tLc2 (wI X tgE it) (uG X scope tgE) (uC X scope ifs) (uI X scope tg1E it1) (uG X scope tg1E) (uC X scope ifs1) (uE X scope e) own own1 σ H Q := by
  refine hi.run X W β M0 ms H σ ρ s _ A ((PostE.bind h).imp fun xs H1 s1 e1 h1 J S dw hS hO D hD => ?_)
  have A1 := A.ext e1
  cases ho : anyOwn ρ own with
  | true =>
    rw [ho] at h1
    exact h1.elim
  | false =>
    rw [ho] at h1
    obtain ⟨ys, se, ec, h2⟩ := quiet_ok h1
    unfold ckLim at h2
    by_cases hl : ys.length ≤ lim
    · rw [if_pos hl] at h2
      have hb : β ≠ some D := box_ne A1.box hD
      have nD : D ∉ M0 ++ owns ms := fun z => by
        obtain ⟨u, e⟩ := A1.liveA D z
        rw [hD] at e
        cases e
      have lvD : ∀ {H s' pre acc}, LS X.K β (M0 ++ owns ms) H1 s1 D pre H s' acc → Live (D :: (M0 ++ owns ms)) H := fun {H s' pre acc} L a ha => by
        rcases List.mem_cons.mp ha with rfl | ha
        · exact ⟨_, L.at_⟩
        · exact L.ext.live A1.liveA a ha
      have lv0 : ∀ {H s' pre acc}, LS X.K β (M0 ++ owns ms) H1 s1 D pre H s' acc → Live (D :: M0) H := fun {H s' pre acc} L a ha => lvD L a (by
        rcases List.mem_cons.mp ha with z | z
        · exact z ▸ List.mem_cons_self
        · exact List.mem_cons_of_mem _ (List.mem_append_left _ z))
      let Pv : Nat → Hp → Prop := fun i H => ∃ s' acc pre rest, LS X.K β (M0 ++ owns ms) H1 s1 D pre H s' acc ∧ collect2 (turnF2 tg own mc oi1 mi1 tg1 own1 mc1 me oe ρ) (xs.drop i) s' = .ok rest se ∧ pre ++ rest = ys
      refine ⟨fun i m H => m = xs.length - i ∧ i ≤ xs.length ∧ Pv i H, ⟨xs.length, by simp, Nat.zero_le _, s1, [], [], ys, LS.zero (X := X) A1.box hD A1.liveA, by simpa using ec, rfl⟩, ?_⟩
      rintro i m H ⟨rfl, hi', s', acc, pre, rest, L, er, ey⟩
      have dg : DG (M0 ++ owns ms) H1 S H := ⟨fun a u z => (hid_some.mp (L.ext.same a u z)).2, fun a ha => L.ext.keep a (hS a ha).1 (hS a ha).2⟩
      by_cases hlt : i < xs.length
      · refine .inr ⟨dw.goes i H hlt dg, Pv (i + 1), fun H' p' => ⟨xs.length - (i + 1), by omega, rfl, hlt, p'⟩, fun x H' y => ?_⟩
        obtain ⟨d, ed, yy⟩ := dw.yields i H x H' hlt dg y
        have up2 := same_D L.ext hD
        have T : LS X.K β (M0 ++ owns ms) H1 s1 D pre H' s' acc ∧ Rp X.K (hid (D :: (M0 ++ owns ms)) H') x d := by
          rcases yy with ⟨rfl, r⟩ | ⟨T, us, es, hT, rfl, rfl, rfl, r⟩
          · exact ⟨L, r.same up2⟩
          · have e := Ext.new (o := .tup us) L.ext.box (lvD L) hT
            exact ⟨L.step hb e, new_tup (lvD L) hT (r.same up2)⟩
        obtain ⟨L1, r1⟩ := T
        have edrop : xs.drop i = d :: xs.drop (i + 1) := by
          rw [List.drop_eq_getElem_cons hlt]
          have := List.getElem?_eq_getElem hlt
          rw [ed] at this
          rw [Option.some.inj this]
        rw [edrop] at er
        obtain ⟨out, s2, ef, er⟩ := mb_ok er
        obtain ⟨rest', s3, er2, er⟩ := mb_ok er
        cases er
        have B : BAt g Φ Cn k sc X scope β (D :: M0) ms H' (wipe σ own) (wipeE ρ own) s' := BAt.of A1.good (A1.rel.blk ho L1.ext hD) L1.ext.box (lv0 L1) fun b e => List.mem_cons_of_mem _ (A1.bin b e)
        unfold turnF2 at ef
        obtain ⟨ρ', s4, t1, ef⟩ := mb_ok ef
        obtain ⟨b, s5, t2, ef⟩ := mb_ok ef
        have nn : ∀ i ∈ tgSlots tg, ∀ p, ms[i]? ≠ some (some p) := fun i hi => own_ms A1.rel (anyOwn_no ho i (sub i hi))
        intro s0 H0 C cl fp
        refine (tg_run ok (B s0 H0 C cl fp) t1 r1 fun ms' σ' A' _ hn hw => ⟨(hw own sub).trans (wipe_idem own), ?_⟩).2
        have em := hn nn
        subst em
        have es : s4 = s' := (tg_run (Q := fun _ _ => True) ok (B s0 H0 C cl fp) t1 r1 fun _ _ _ _ _ _ => trivial).1
        subst es
        have B' : BAt g Φ Cn k sc X scope β (D :: M0) ms' H' σ' ρ' s4 := A'.bat A1.good
        refine uC_use hc B' L1.ext.box t2 fun H3 x3 => ?_
        have L3 := L1.step hb x3
        cases b with
        | false =>
          cases ef
          rw [if_neg Bool.false_ne_true]
          exact ⟨_, acc, pre, rest', L3, er2, by rw [← ey]; rfl⟩
        | true =>
          rw [if_pos rfl]
          rw [if_pos rfl] at ef
          cases eo : oi1 ρ' with
          | true =>
            rw [eo] at ef
            cases ef
          | false =>
            rw [eo] at ef
            obtain ⟨zs, s6, t3, ef⟩ := mb_ok ef
            cases ho1 : anyOwn ρ' own1 with
            | true =>
              rw [ho1] at ef
              cases ef
            | false =>
              rw [ho1] at ef
              have ef : collect (turnF tg1 own1 mc1 me oe ρ') zs s6 = .ok out s2 := ef
              have B3 := B'.ext x3
              refine uI_use hi1 B3 t3 eo fun J1 H4 x4 dw1 => ?_
              have L4 := L3.step hb x4
              have B4 := B3.ext x4
              have S4 : SRel X.K β (D :: M0) ms' H4 σ' ρ' := (B4 s0 H0 C cl fp).rel
              have nn1 : ∀ i ∈ tgSlots tg1, ∀ p, ms'[i]? ≠ some (some p) := fun i hi => own_ms S4 (anyOwn_no ho1 i (sub1 i hi))
              let Pv1 : Nat → Hp → Prop := fun j H => ∃ s' acc pre1 rest1, LS X.K β (M0 ++ owns ms') H1 s1 D (pre ++ pre1) H s' acc ∧ KD β (M0 ++ owns ms') D H4 H ∧ collect (turnF tg1 own1 mc1 me oe ρ') (zs.drop j) s' = .ok rest1 s2 ∧ pre1 ++ rest1 = out
              refine ⟨fun j m H => m = zs.length - j ∧ j ≤ zs.length ∧ Pv1 j H, ⟨zs.length, by simp, Nat.zero_le _, s6, acc, [], out, by rw [List.append_nil]; exact L4, .refl, by simpa using ef, rfl⟩, ?_⟩
              rintro j m H5 ⟨rfl, hj', s7, acc5, pre1, rest1, L5, kd, er5, ey5⟩
              have dg1 : DG (D :: M0 ++ owns ms') H4 [] H5 := ⟨fun a u z => (hid_some.mp (kd.same a u z)).2, fun a ha => by cases ha⟩
              by_cases hlt1 : j < zs.length
              · refine .inr ⟨dw1.goes j H5 hlt1 dg1, Pv1 (j + 1), fun H' p' => ⟨zs.length - (j + 1), by omega, rfl, hlt1, p'⟩, fun x5 H6 y5 => ?_⟩
                obtain ⟨d5, ed5, yy5⟩ := dw1.yields j H5 x5 H6 hlt1 dg1 y5
                have T : LS X.K β (M0 ++ owns ms') H1 s1 D (pre ++ pre1) H6 s7 acc5 ∧ KD β (M0 ++ owns ms') D H4 H6 ∧ Rp X.K (hid (D :: (M0 ++ owns ms')) H6) x5 d5 := by
                  rcases yy5 with ⟨rfl, r⟩ | ⟨T, us, es, hT, rfl, rfl, rfl, r⟩
                  · exact ⟨L5, kd, r.same kd.same⟩
                  · have e := Ext.new (o := .tup us) L5.ext.box (lvD L5) hT
                    exact ⟨L5.step hb e, kd.trans (.ext e), new_tup (lvD L5) hT (r.same kd.same)⟩
                obtain ⟨L6, kd6, r6⟩ := T
                have edrop5 : zs.drop j = d5 :: zs.drop (j + 1) := by
                  rw [List.drop_eq_getElem_cons hlt1]
                  have := List.getElem?_eq_getElem hlt1
                  rw [ed5] at this
                  rw [Option.some.inj this]
                rw [edrop5] at er5
                obtain ⟨y6, s8, ef6, er6⟩ := mb_ok er5
                obtain ⟨rest6, s9, er7, er8⟩ := mb_ok er6
                cases er8
                have B6 : BAt g Φ Cn k sc X scope β (D :: M0) ms' H6 (wipe σ' own1) (wipeE ρ' own1) s7 := BAt.of A1.good ((S4.kd kd6).wipe0 ho1) L6.ext.box (lv0 L6) fun b e => List.mem_cons_of_mem _ (A1.bin b e)
                have epre : (pre ++ pre1) ++ y6.toList = pre ++ (pre1 ++ y6.toList) := List.append_assoc _ _ _
                have eout : pre1 ++ y6.toList ++ rest6 = out := by
                  rw [← ey5]
                  cases y6 <;> simp
                refine turn_core ok1 sub1 hc1 he A1.good B6 nn1 hb A1.liveA hD L6 r6 ef6 ?_ fun acc' H7 H8 x7 ee L8 => ⟨s8, acc', pre1 ++ y6.toList, rest6, by rw [← epre]; exact L8, ?_, er7, eout⟩
                · have hl2 := hl
                  rw [← ey, ← eout] at hl2
                  simp only [List.length_append] at hl2 ⊢
                  omega
                · have kd7 := kd6.trans (.ext x7)
                  rcases ee with rfl | ⟨o, rfl⟩
                  · exact kd7
                  · exact kd7.trans (.upd nD)
              · have ej : j = zs.length := by omega
                subst ej
                have ed5 : zs.drop zs.length = [] := List.drop_length
                rw [ed5] at er5
                cases er5
                rw [List.append_nil] at ey5
                subst ey5
                refine .inl ⟨dw1.stops H5 dg1, _, acc5, pre ++ pre1, rest', L5, er2, ?_⟩
                rw [← ey, List.append_assoc]
      · have ei : i = xs.length := by omega
        subst ei
        have ed : xs.drop xs.length = [] := List.drop_length
        rw [ed] at er
        cases er
        rw [List.append_nil] at ey
        subst ey
        have rr : Rp X.K (hid (M0 ++ owns ms) H) (.ref D) (.list pre) := .lst (hid_some.mpr ⟨nD, L.at_⟩) (L.rp.same (hid_le fun a ha => List.mem_cons_of_mem _ ha))
        exact .inl ⟨dw.stops H dg, h2 _ _ L.ext (.rp rr) fun _ => rr⟩
    · rw [if_neg hl] at h2
      exact h2.elim
theorem b_comp2 {tg tg1 : Tg} {tgE it tg1E it1 e : Expr} {ifs ifs1 : List Expr} {own : List (Str × Nat)} {own1 : List Nat} {mi mi1 : Env → M (List PyData)} {oi oi1 : Env → Bool} {mc mc1 : Env → M Bool} {me : Env → M PyData} {oe : Env → Bool} {pos : Pos}
    (hi : SI g Φ Cn k sc tgE it mi oi) (bl : blkC g.N sc.run scope own = true) (ok : tgOk g (bSk sc scope) tg tgE = true) (sub : ∀ i ∈ tgSlots tg, i ∈ own.map (·.2)) (hc : SC g Φ Cn k (bSk sc scope) ifs mc)
    (hi1 : SI g Φ Cn k (bSk sc scope) tg1E it1 mi1 oi1) (ok1 : tgOk g (bSk sc scope) tg1 tg1E = true) (sub1 : ∀ i ∈ tgSlots tg1, i ∈ own1) (hv : ∀ i ∈ own1, i ∈ own.map (·.2)) (hc1 : SC g Φ Cn k (bSk sc scope) ifs1 mc1) (he : SB g Φ Cn k (bSk sc scope) e me oe) :
    SB g Φ Cn k sc (.ListComp e [⟨tgE, it, ifs, 0⟩, ⟨tg1E, it1, ifs1, 0⟩] scope pos) (fun ρ => .bind (mi ρ) fun xs => if anyOwn ρ (own.map (·.2)) then .bad else .bind (M.quiet (collect2 (turnF2 tg (own.map (·.2)) mc oi1 mi1 tg1 own1 mc1 me oe ρ) xs)) ckLim) (fun _ => false) := by
  refine .of rfl ?_
  intro X W β M0 ms H σ ρ s Q A h
  have bo := blkOk_by bl
  rw [← A.good.nm, ← A.good.sc_] at bo
  exact wE.of (pe_lc2 A.good.calm A.good.nd (wI_pi tgE it) bo hv (fun s H C cl fp => uG_pg X scope tgE s H C cl fp) (fun s H C cl fp => uC_pt X scope s H C cl fp ifs) (fun s H C cl fp => uI_pi X scope tg1E it1 s H C cl fp) (fun s H C cl fp => uG_pg X scope tg1E s H C cl fp) (fun s H C cl fp => uC_pt X scope s H C cl fp ifs1)
    (fun s H C cl fp => uE_pe X scope e s H C cl fp) (fun x => hi.fs _ x) fun env x => hi1.fs env x) (comp2_core hi ok sub hc hi1 ok1 sub1 hc1 he A h)
end
end Pd
end
section
/-! Pd: dict comprehensions; a two-clause comprehension under a name. -/
namespace Pd
open PySem PySem.Spec PyProof.Rows L2
section
variable {g : G} {Φ : Nat → Fn} {Cn : List D} {k : Nat} {sc : Sk} {X : Cx} {W : WX} {β : Option Addr} {M0 : List Addr} {ms : List (Option Addr)} {H H' H1 H2 : Hp} {σ : L2.St} {ρ : Env} {s s' : Bx} {Q R : VK} {scope : Scope}
structure LK (K : PySem.W.Frag) (β : Option Addr) (M : List Addr) (H1 : Hp) (s1 : Bx) (D : Addr) (pre : List (PyData × PyData)) (H : Hp) (s : Bx) (acc : List (Key × V)) : Prop where
  ext : Ext β M H1 s1 H s
  at_ : H D = some (.dK acc)
  rp : RpK K (hid (D :: M) H) acc pre
theorem LK.step {M : List Addr} {H1 : Hp} {s1 : Bx} {D : Addr} {pre : List (PyData × PyData)} {acc : List (Key × V)} (L : LK X.K β M H1 s1 D pre H s acc) (hb : β ≠ some D) (e : Ext β (D :: M) H s H' s') : LK X.K β M H1 s1 D pre H' s' acc :=
  ⟨L.ext.trans (e.less hb), (e.keep D List.mem_cons_self hb).trans L.at_, L.rp.same e.same⟩
theorem RpK.app {K : PySem.W.Frag} {H : Hp} : ∀ {vs us : List (Key × V)} {ds es : List (PyData × PyData)}, RpK K H vs ds → RpK K H us es → RpK K H (vs ++ us) (ds ++ es)
  | _, _, _, _, .nil, r => r
  | _, _, _, _, .cons h t, r => .cons h (RpK.app t r)
theorem RpK.len {K : PySem.W.Frag} {H : Hp} : ∀ {vs : List (Key × V)} {ds : List (PyData × PyData)}, RpK K H vs ds → vs.length = ds.length
  | _, _, .nil => rfl
  | _, _, .cons h t => congrArg (· + 1) (RpK.len t)
theorem LK.add {M : List Addr} {H1 : Hp} {s1 : Bx} {D : Addr} {pre : List (PyData × PyData)} {acc : List (Key × V)} {v : V} {u : Str} {d : PyData} (L : LK X.K β M H1 s1 D pre H s acc) (hD : H1 D = none) (lv : Live M H1) (hb : β ≠ some D) (r : Rp X.K (hid (D :: M) H) v d) :
    LK X.K β M H1 s1 D (pre ++ [(.str u, d)]) (upd H D (.dK (acc ++ [(.inr u, v)]))) s (acc ++ [(.inr u, v)]) :=
  ⟨L.ext.updD hD lv hb, upd_same, by rw [hid_upd]; exact RpK.app L.rp (.cons r .nil)⟩
theorem new_key {K : PySem.W.Frag} {pre rest : List (PyData × PyData)} {acc : List (Key × V)} {u : Str} {d : PyData} (r : RpK K H acc pre) (nd : ((pre ++ (.str u, d) :: rest).map fun p => match p.1 with
        | .str u => u.cps.toList
        | _ => []).Nodup) : valV acc (.inr u) = none := by
  have e := (dic_get (u := u) r).2
  cases q : valV acc (.inr u) with
  | none => rfl
  | some v =>
    rw [q] at e
    obtain ⟨p, hp, hk⟩ := List.any_eq_true.mp (show pre.any (isKey u) = true from e)
    rw [List.map_append, List.map_cons] at nd
    have h1 := (List.nodup_append.mp nd).2.2
    exfalso
    unfold isKey at hk
    split at hk
    · rename_i v' e1
      have e2 : v' = u := by simpa using hk
      refine h1 u.cps.toList ?_ u.cps.toList List.mem_cons_self rfl
      refine List.mem_map.mpr ⟨p, hp, ?_⟩
      rw [e1, e2]
    · cases hk
theorem dcomp_core {tg : Tg} {tgE it ek ev_ : Expr} {ifs : List Expr} {own : List Nat} {mi : Env → M (List PyData)} {oi : Env → Bool} {mc : Env → M Bool} {mk mv : Env → M PyData} {ok_ ov : Env → Bool}
    (hi : SI g Φ Cn k sc tgE it mi oi) (ok : tgOk g (bSk sc scope) tg tgE = true) (sub : ∀ i ∈ tgSlots tg, i ∈ own) (hc : SC g Φ Cn k (bSk sc scope) ifs mc) (hk : SB g Φ Cn k (bSk sc scope) ek mk ok_) (hv : SB g Φ Cn k (bSk sc scope) ev_ mv ov)
    (A : At g Φ Cn k sc X W β M0 ms H σ ρ s)
    (h : PostE X.K X.mg g W σ β (M0 ++ owns ms) H s false (Pd.M.bind (mi ρ) (fun xs => if anyOwn ρ own then .bad else .bind (M.quiet (collectK (turnK tg own mc mk mv ov ρ) xs)) ckDic) s) Q) :
    tDc (wI X tgE it) (uG X scope tgE) (uC X scope ifs) (uE X scope ek) (uE X scope ev_) own σ H Q := by
  refine hi.run X W β M0 ms H σ ρ s _ A ((PostE.bind h).imp fun xs H1 s1 e1 h1 J S dw hS hO D hD => ?_)
  have A1 := A.ext e1
  cases ho : anyOwn ρ own with
  | true =>
    rw [ho] at h1
    exact h1.elim
  | false =>
    rw [ho] at h1
    obtain ⟨ys, se, ec, h2⟩ := quiet_ok h1
    unfold ckDic at h2
    split at h2
    · rename_i hcond
      rw [Bool.and_eq_true, decide_eq_true_eq, decide_eq_true_eq] at hcond
      obtain ⟨hl, nd⟩ := hcond
      have hb : β ≠ some D := box_ne A1.box hD
      have nD : D ∉ M0 ++ owns ms := fun z => by
        obtain ⟨u, e⟩ := A1.liveA D z
        rw [hD] at e
        cases e
      have lvD : ∀ {H s' pre acc}, LK X.K β (M0 ++ owns ms) H1 s1 D pre H s' acc → Live (D :: (M0 ++ owns ms)) H := fun {H s' pre acc} L a ha => by
        rcases List.mem_cons.mp ha with rfl | ha
        · exact ⟨_, L.at_⟩
        · exact L.ext.live A1.liveA a ha
      let Pv : Nat → Hp → Prop := fun i H => ∃ s' acc pre rest, LK X.K β (M0 ++ owns ms) H1 s1 D pre H s' acc ∧ collectK (turnK tg own mc mk mv ov ρ) (xs.drop i) s' = .ok rest se ∧ pre ++ rest = ys
      refine ⟨fun i m H => m = xs.length - i ∧ i ≤ xs.length ∧ Pv i H, ⟨xs.length, by simp, Nat.zero_le _, s1, [], [], ys, ⟨Ext.new A1.box A1.liveA hD, upd_same, .nil⟩, by simpa using ec, rfl⟩, ?_⟩
      rintro i m H ⟨rfl, hi', s', acc, pre, rest, L, er, ey⟩
      have dg : DG (M0 ++ owns ms) H1 S H := ⟨fun a u z => (hid_some.mp (L.ext.same a u z)).2, fun a ha => L.ext.keep a (hS a ha).1 (hS a ha).2⟩
      by_cases hlt : i < xs.length
      · refine .inr ⟨dw.goes i H hlt dg, Pv (i + 1), fun H' p' => ⟨xs.length - (i + 1), by omega, rfl, hlt, p'⟩, fun x H' y => ?_⟩
        obtain ⟨d, ed, yy⟩ := dw.yields i H x H' hlt dg y
        have up2 := same_D L.ext hD
        have T : LK X.K β (M0 ++ owns ms) H1 s1 D pre H' s' acc ∧ Rp X.K (hid (D :: (M0 ++ owns ms)) H') x d := by
          rcases yy with ⟨rfl, r⟩ | ⟨T, us, es, hT, rfl, rfl, rfl, r⟩
          · exact ⟨L, r.same up2⟩
          · have e := Ext.new (o := .tup us) L.ext.box (lvD L) hT
            exact ⟨L.step hb e, new_tup (lvD L) hT (r.same up2)⟩
        obtain ⟨L1, r1⟩ := T
        have edrop : xs.drop i = d :: xs.drop (i + 1) := by
          rw [List.drop_eq_getElem_cons hlt]
          have := List.getElem?_eq_getElem hlt
          rw [ed] at this
          rw [Option.some.inj this]
        rw [edrop] at er
        obtain ⟨out, s2, ef, er⟩ := mb_ok er
        obtain ⟨rest', s3, er2, er⟩ := mb_ok er
        cases er
        have lv0 : Live (D :: M0) H' := fun a ha => lvD L1 a (by
          rcases List.mem_cons.mp ha with z | z
          · exact z ▸ List.mem_cons_self
          · exact List.mem_cons_of_mem _ (List.mem_append_left _ z))
        have B : BAt g Φ Cn k sc X scope β (D :: M0) ms H' (wipe σ own) (wipeE ρ own) s' := BAt.of A1.good (A1.rel.blk ho L1.ext hD) L1.ext.box lv0 fun b e => List.mem_cons_of_mem _ (A1.bin b e)
        unfold turnK at ef
        obtain ⟨ρ', s4, t1, ef⟩ := mb_ok ef
        obtain ⟨b, s5, t2, ef⟩ := mb_ok ef
        have nn : ∀ i ∈ tgSlots tg, ∀ p, ms[i]? ≠ some (some p) := fun i hi => own_ms A1.rel (anyOwn_no ho i (sub i hi))
        intro s0 H0 C cl fp
        refine (tg_run ok (B s0 H0 C cl fp) t1 r1 fun ms' σ' A' _ hn hw => ⟨(hw own sub).trans (wipe_idem own), ?_⟩).2
        have em := hn nn
        subst em
        have es : s4 = s' := (tg_run (Q := fun _ _ => True) ok (B s0 H0 C cl fp) t1 r1 fun _ _ _ _ _ _ => trivial).1
        subst es
        have B' : BAt g Φ Cn k sc X scope β (D :: M0) ms' H' σ' ρ' s4 := A'.bat A1.good
        refine uC_use hc B' L1.ext.box t2 fun H3 x3 => ?_
        have L3 := L1.step hb x3
        cases b with
        | false =>
          cases ef
          rw [if_neg Bool.false_ne_true]
          exact ⟨_, acc, pre, rest', L3, er2, by rw [← ey]⟩
        | true =>
          rw [if_pos rfl]
          rw [if_pos rfl] at ef
          cases eo : ov ρ' with
          | true =>
            rw [eo] at ef
            cases ef
          | false =>
            rw [eo] at ef
            obtain ⟨xk, s6, t3, ef⟩ := mb_ok ef
            obtain ⟨yv, s7, t4, ef⟩ := mb_ok ef
            cases xk with
            | str u =>
              have ef : Pd.M.pure (some (PyData.str u, yv)) s7 = .ok out s2 := ef
              cases ef
              have B3 := B'.ext x3
              intro s0 H0 C cl fp
              refine hk.ex.use (B3 s0 H0 C cl fp) ?_
              rw [t3]
              intro H4 x4 vk rk _
              cases rk.str
              have L4 := L3.step hb x4
              refine uE_use hv (B3.ext x4) t4 eo fun v2 H5 x5 r5 => ?_
              have L5 := L4.step hb x5
              have nk : valV acc (.inr u) = none := new_key L5.rp (rest := rest') (d := yv) (by rw [ey]; exact nd)
              refine ⟨acc, .inr u, rfl, L5.at_, ?_, s2, acc ++ [(.inr u, v2)], pre ++ [(.str u, yv)], rest', ?_, er2, ?_⟩
              · have h1 := RpK.len L5.rp
                have h3 : ys.length ≤ lim := hl
                rw [← ey] at h3
                simp only [List.length_append, List.length_cons] at h3
                have h4 : lim = sizeLine := rfl
                omega
              · rw [putK_new v2 nk]
                exact L5.add hD A1.liveA hb r5
              · rw [← ey, List.append_assoc]
                rfl
            | _ => cases ef
      · have ei : i = xs.length := by omega
        subst ei
        have ed : xs.drop xs.length = [] := List.drop_length
        rw [ed] at er
        cases er
        rw [List.append_nil] at ey
        subst ey
        have rr : Rp X.K (hid (M0 ++ owns ms) H) (.ref D) (.dict pre) := .dic (hid_some.mpr ⟨nD, L.at_⟩) (L.rp.same (hid_le fun a ha => List.mem_cons_of_mem _ ha))
        exact .inl ⟨dw.stops H dg, h2 _ _ L.ext (.rp rr) fun _ => rr⟩
    · exact h2.elim
theorem b_dcomp {tg : Tg} {tgE it ek ev_ : Expr} {ifs : List Expr} {own : List (Str × Nat)} {mi : Env → M (List PyData)} {oi : Env → Bool} {mc : Env → M Bool} {mk mv : Env → M PyData} {ok_ ov : Env → Bool} {pos : Pos}
    (hi : SI g Φ Cn k sc tgE it mi oi) (bl : blkC g.N sc.run scope own = true) (ok : tgOk g (bSk sc scope) tg tgE = true) (sub : ∀ i ∈ tgSlots tg, i ∈ own.map (·.2)) (hc : SC g Φ Cn k (bSk sc scope) ifs mc) (hk : SB g Φ Cn k (bSk sc scope) ek mk ok_) (hv : SB g Φ Cn k (bSk sc scope) ev_ mv ov) :
    SB g Φ Cn k sc (.DictComp ek ev_ [⟨tgE, it, ifs, 0⟩] scope pos) (fun ρ => .bind (mi ρ) fun xs => if anyOwn ρ (own.map (·.2)) then .bad else .bind (M.quiet (collectK (turnK tg (own.map (·.2)) mc mk mv ov ρ) xs)) ckDic) (fun _ => false) := by
  refine .of rfl ?_
  intro X W β M0 ms H σ ρ s Q A h
  have bo := blkOk_by bl
  rw [← A.good.nm, ← A.good.sc_] at bo
  exact wE.of (pe_dc A.good.calm A.good.nd (wI_pi tgE it) bo (fun s H C cl fp => uG_pg X scope tgE s H C cl fp) (fun s H C cl fp => uC_pt X scope s H C cl fp ifs) (fun s H C cl fp => uE_pe X scope ek s H C cl fp) (fun s H C cl fp => uE_pe X scope ev_ s H C cl fp) fun x => hi.fs _ x) (dcomp_core hi ok sub hc hk hv A h)
/-- name = [.. for .. for ..] on one line -/
theorem s_asgLc2 {i : Nat} {x : Str} {e : Expr} {tg tg1 : Tg} {tgE it tg1E it1 : Expr} {ifs ifs1 : List Expr} {own : List (Str × Nat)} {own1 : List Nat} {mi mi1 : Env → M (List PyData)} {oi oi1 : Env → Bool} {mt mc1 : Env → M Bool} {me : Env → M PyData} {oe : Env → Bool} {p lp pos : Pos}
    (hn : nmOk g sc i x = true) (hl : sc.run.names.lookup x = some .local)
    (sw : ∀ env : PySem.Env, env.scope = sc.run → swapsWith (.ListComp e [⟨tgE, it, ifs, 0⟩, ⟨tg1E, it1, ifs1, 0⟩] scope lp) (some (.Name x p)) pos.line env = pure true)
    (hi : SI g Φ Cn k sc tgE it mi oi) (bl : blkC g.N sc.run scope own = true) (ok : tgOk g (bSk sc scope) tg tgE = true) (sub : ∀ i ∈ tgSlots tg, i ∈ own.map (·.2)) (hc : SC g Φ Cn k (bSk sc scope) ifs mt)
    (hi1 : SI g Φ Cn k (bSk sc scope) tg1E it1 mi1 oi1) (ok1 : tgOk g (bSk sc scope) tg1 tg1E = true) (sub1 : ∀ i ∈ tgSlots tg1, i ∈ own1) (hv : ∀ i ∈ own1, i ∈ own.map (·.2)) (hc1 : SC g Φ Cn k (bSk sc scope) ifs1 mc1) (he : SB g Φ Cn k (bSk sc scope) e me oe) :
    SS g Φ Cn k sc (.Assign [.Name x p] (.ListComp e [⟨tgE, it, ifs, 0⟩, ⟨tg1E, it1, ifs1, 0⟩] scope lp) pos)
      (fun ρ => Pd.lft ρ (.bind (mi ρ) fun xs => if anyOwn ρ (own.map (·.2)) then .bad else .bind (M.quiet (collect2 (turnF2 tg (own.map (·.2)) mt oi1 mi1 tg1 own1 mc1 me oe ρ) xs)) ckLim) fun y => .go .nx (ρ.set i (.dat y))) := by
  intro X W β M0 ms H σ ρ s D A h
  obtain ⟨h1, h2, h3⟩ := A.good.loc hn
  have bo := blkOk_by bl
  rw [← A.good.nm, ← A.good.sc_] at bo
  refine wS.of (ps_setLc2 A.good.calm A.good.nd h1 (by rw [A.good.sc_]; exact hl) (sw _ A.good.sc_) (wI_pi tgE it) bo hv (fun s H C cl fp => uG_pg X scope tgE s H C cl fp) (fun s H C cl fp => uC_pt X scope s H C cl fp ifs) (fun s H C cl fp => uI_pi X scope tg1E it1 s H C cl fp) (fun s H C cl fp => uG_pg X scope tg1E s H C cl fp) (fun s H C cl fp => uC_pt X scope s H C cl fp ifs1)
    (fun s H C cl fp => uE_pe X scope e s H C cl fp) (fun x => hi.fs _ x) fun env x => hi1.fs env x) ?_
  refine comp2_core hi ok sub hc hi1 ok1 sub1 hc1 he A ?_
  have q := PostS.lft (m := .bind (mi ρ) fun xs => if anyOwn ρ (own.map (·.2)) then .bad else .bind (M.quiet (collect2 (turnF2 tg (own.map (·.2)) mt oi1 mi1 tg1 own1 mc1 me oe ρ) xs)) ckLim) h A
  revert q
  generalize (Pd.M.bind (mi ρ) fun xs => if anyOwn ρ (own.map (·.2)) then .bad else .bind (M.quiet (collect2 (turnF2 tg (own.map (·.2)) mt oi1 mi1 tg1 own1 mc1 me oe ρ) xs)) ckLim) s = r
  cases r with
  | bad => exact id
  | exc c p s' => exact id
  | ok d s' => exact fun q v H' x _ r0 => q H' x (ms.set i none) H' _ (.fewer (owns_none ms i)) ((A.ext x).put (r0 rfl))
end
end Pd
end
section
/-! Pd: raise. -/
namespace L2
open PySem PySem.Spec PyProof.Rows
theorem relO_f {f : Str} {v : V} {v' : Value} (r : RelV v v') (y : Str) : RelO (List.lookup y [(f, v)]) (if y = f then some v' else none) := by
  by_cases hw : y = f
  · subst hw
    rw [if_pos rfl]
    have q : List.lookup y [(y, v)] = some v := by simp [List.lookup]
    rw [q]
    exact r
  · rw [if_neg hw]
    have qw : (y == f) = false := by simpa using hw
    have q2 : List.lookup y [(f, v)] = none := by simp [List.lookup, qw]
    rw [q2]
    trivial
section
variable {X : Cx} {C fI : Addr} {q f : Str} {B newId initId : String} {bmB : List Value}
def tMkE (C : Addr) (f : Str) (ta : TA) : St → Hp → XK → Prop := fun σ H Q => ta σ H fun vs H1 => ∃ v, vs = [v] ∧ ∀ d, H1 d = none → Q (.ref C) (some d) (upd H1 d (.xd [(f, v)]))
theorem pmk_err {x : Str} {a : Expr} {ta : TA} {p pos : Pos} {k : Nat} (FB : PySem.PdX.BaseF B newId initId bmB) (T : PySem.PdX.ErrT X.prog X.K C fI q f newId bmB) (nf : f ≠ "self") (nd : (f == ("__debug__" : Str)) = false) (nsu : (("super" : Str) == f) = false) (ncl : (("__class__" : Str) == f) = false) (hbi : PySem.PdX.BindF f)
    (gC : X.mg x = some (.ref C)) (kC : PySem.W.keepIn X.K (.ref C) = true) (exC : PySem.W.subIn X.K (.ref C) (.type "BaseException") = some true) (tyC : PySem.W.typeIn X.K (.ref C) = some (.type "type")) (hr : Room k X.A) (ha : PA X [a] ta) (hg : Gl X x)
    (hdb : (x == ("__debug__" : Str)) = false)
    (he : starEach (a :: []) X.env = (false, eval a X.env) :: starEach [] X.env) (hpl : (backTo pos (starEach [] X.env)).any (·.1) = false := by rfl) :
    PMk X (.Call (.Name x p) [a] [] pos) (tMkE C f ta) := by
  intro pins s σ H Q I h
  refine wpAny_Call_Name_kw (ld_glob I hg gC ?_ hdb)
  refine PySem.W.callWith_K (h₀ := X.base) I.ok.mod.kin kC (thn (ha.run pos pins s σ H _ I h) fun us s1 hh => ?_) he hpl
  obtain ⟨vs, H1, I1, r1, v, ev, q1⟩ := hh
  subst ev
  refine ⟨I1.kIn, ?_⟩
  cases r1 with
  | cons rv rn =>
    rename_i v' us'
    cases rn
    show wpAny _ _ (call (.ref C) [v']) _ _ _
    have hlim := I1.nolimit
    have G1 : s1.heap.Ns mainGlobals X.mg := I1.mod.glob.keeps I1.bk
    have B1 : ∃ mb, s1.heap.Ns builtinsNs mb ∧ ∀ y : Str, y ≠ "__name__" → mb y = bootBuiltins y := by
      obtain ⟨mb, h1, h2⟩ := I1.mod.blt
      exact ⟨mb, h1.keeps I1.bk, h2⟩
    obtain ⟨hp, g, dr, tk, os⟩ := s1
    refine wpAny_call (PySem.PdX.err_made FB T nf nd nsu ncl I1.kIn hlim G1 B1 (by have := hr.dp; omega) hbi fun h' tk' e d M => ?_)
    show MkP X pins σ Q (.ref e) ⟨h', g, dr, tk', os⟩
    obtain ⟨oe, fv, hoe, hc, hd, hdat, h1⟩ := M.obj
    have hns := M.ns
    obtain ⟨G', g1, g2⟩ := restrict h' fun b => decide (b ≠ e)
    have gk : ∀ b, b ≠ e → G'.get? b = h'.get? b := fun b hb => g1 b (decide_eq_true hb)
    have ge : G'.get? e = none := g2 e (by simp)
    have old : ∀ b o, hp.get? b = some o → G'.get? b = some o := fun b o q => (gk b (Nat.ne_of_lt (Nat.lt_of_lt_of_le (Heap.lt_size q) M.new))).trans (M.keep b o q)
    have ob : ObjOk X.prog X.w (upd H1 d (.xd [(f, v)])) G' d (.xd [(f, v)]) :=
      ⟨_, hns.at (fun o q => (gk d M.dne).trans q), fun y => relO_f rv y⟩
    have J : Inv X pins σ (upd H1 d (.xd [(f, v)])) ⟨G', g, dr, tk', os⟩ := I1.laid (t' := tk') old M.dbig ob
    refine ⟨e, oe, fv, ⟨G', g, dr, tk', os⟩, _, .ref C, some d, rfl, J, fun b o q => ?_, ge, hoe, ⟨hc, hd⟩, hdat, h1, ?_, rfl, I1.bare, raises_own exC tyC, q1 d (I1.hok.fresh M.dbig)⟩
    · by_cases hb : b = e
      · have q' : G'.get? b = some o := q
        rw [hb, ge] at q'; cases q'
      · exact (gk b hb).symm.trans q
    · rw [upd_ne (Ne.symm M.dne)]
      exact I1.hok.fresh M.new
/-- X(), X an own exception class without own __init__ -/
theorem pmk_own0 {x : Str} {p pos : Pos} (F : ExcBaseFacts B newId initId bmB) (q : PySem.W.excIn X.K C bmB newId = true) (gC : X.mg x = some (.ref C))
    (kC : PySem.W.keepIn X.K (.ref C) = true) (r : Raises X (.ref C)) (hg : Gl X x) (hdb : (x == ("__debug__" : Str)) = false) :
    PMk X (.Call (.Name x p) [] [] pos) (fun _ H Q => Q (.ref C) none H) := by
  intro pins s σ H Q I h
  refine wpAny_Call_Name_kw (ld_glob I hg gC ?_ hdb)
  refine PySem.W.callWith_K0 I.kIn kC ?_
  show wpAny _ _ (call (.ref C) []) _ _ _
  obtain ⟨bm, N, nm, qn, bs, hdct, sn, sub, ab, col, dd, k0, k1, k2, k3, k5, mN, hC, hN, hni, T⟩ := exc_obj I.kIn q
  refine wpAny_call_exc_subT F T hC hN hni (fun h' e hm => ?_) (Nat.zero_le _)
  exact mk_of I hm r h (I.hok.gone hm.new)
end
end L2
end
section
/-! Pd: several clauses 'except X as n'. -/
namespace L2
open PySem PySem.Spec PyProof.Rows
def endAs (D : Ends) (i : Nat) : Ends := { nx := fun σ' H' => D.nx (σ'.set i none) H', rt := D.rt, bk := fun σ' H' => D.bk (σ'.set i none) H', ct := fun σ' H' => D.ct (σ'.set i none) H' }
def wManyAs (K : PySem.W.Frag) (Wout : WX) (D : Ends) : List (Value × Nat × (Addr → Value → Option Addr → TS)) → WX
  | [] => Wout
  | (c, i, ts) :: r => fun cls d σ H => ∃ b, PySem.W.exmOne K cls c = some b ∧ (b = true → ∀ a, H a = none → ts a cls d (endAs D i) (σ.set i (some (.ref a))) H) ∧ (b = false → wManyAs K Wout D r cls d σ H)
inductive HdsAs (X : Cx) : List ExceptHandler → List (Value × Nat × (Addr → Value → Option Addr → TS)) → Prop
  | nil : HdsAs X [] []
  | cons {x n : Str} {c : Value} {i : Nat} {ts : Addr → Value → Option Addr → TS} {b₀ : Stmt} {suite : List Stmt} {np pos' : Pos} {hds : List ExceptHandler} {l : List (Value × Nat × (Addr → Value → Option Addr → TS))} (hc : Names X x c) (hi : X.N[i]? = some n) (hln : X.env.kindOf n = some .local)
      (hsu : ∀ (a : Addr) (oe : Obj) (cls : Value) (d : Option Addr) (pn : List (Addr × Obj)), Zc cls d oe → (∃ vs, oe.data = .fields vs) → PSs (X.suite a ((a, oe) :: pn)) (b₀ :: suite) (ts a cls d)) (r : HdsAs X hds l) :
      HdsAs X (.ExceptHandler (some (.Name x np)) (some n) (b₀ :: suite) pos' :: hds) ((c, i, ts) :: l)
section
variable {X : Cx} {body : List Stmt} {h₀ : ExceptHandler} {hds : List ExceptHandler} {l : List (Value × Nat × (Addr → Value → Option Addr → TS))} {pos : Pos} {tb : WX → TS} {Wout : WX}
theorem ps_try_manyAs (hs : X.stack = X.env :: X.outer) (hf : X.env.frame = some X.env.locals) (hN : X.N.Nodup) (tk : Takes X Wout)
    (hb : ∀ (W : WX) (pn : List (Addr × Obj)) (xe : Value → Shared → Prop), Takes (X.tr pn xe) W → PassesOwn (model X.prog X.w) X.A X.env xe → PSs (X.tr pn xe) body (tb W))
    (hh : HdsAs X (h₀ :: hds) l) : PS X (.Try body (h₀ :: hds) [] [] pos) (fun D σ H => tb (wManyAs X.K Wout D l) D σ H) := by
  refine ⟨fun pins s σ H D I h => ?_⟩
  have ok := I.ok
  have hfr : X.A.frames = some (X.env :: X.outer) := by rw [ok.frames, hs]
  refine wpAny_Try_except ?_
  refine wpAny_mono ((hb (wManyAs X.K Wout D l) (X.pn ++ pins) (fun e s₁ => wpAny (model X.prog X.w) X.A (noteFrame e X.env) (fun _ s₂ => wpAny (model X.prog X.w) X.A (setFlight e none) (fun _ s₃ =>
    wpAny (model X.prog X.w) X.A (handleBy e X.env (h₀ :: hds)) (SP X pins D) X.xe s₃) X.xe s₂) X.xe s₁) (fun u s' xx => ?_) PassesOwn.looking).run [] s σ H D (I.toTry _) h) (fun f s1 hsp => ?_) (fun e s1 he => he)
  · -- the catch
    obtain ⟨a, B, sI, pins', σ', H', cls, d, rfl, J', nb, up, sky, na, os, ag, w⟩ := xx
    have J : Inv X pins σ' H' sI := J'.ofTry ok
    have sky' : Sky B (X.env :: X.outer) a (Zc cls d) X.env.locals s'.heap := by rw [← hs]; exact sky
    show wpAny (model X.prog X.w) X.A (noteFrame (.ref a) X.env) _ _ _
    refine Sky.land Zc.steady hfr hf sky' fun h3 fl3 up3 => ?_
    have J3 : Inv X pins σ' H' { s' with heap := h3 } := J.landed nb fl3.1 (up.trans up3) os ag
    obtain ⟨oe3, vs3, he3, hz3, hd3⟩ := fl3.there
    have notFr : ∀ {h : Heap} {o : Obj} {vs : Array Value}, h.FunFrames B (X.env :: X.outer) → h.get? a = some o → o.data = .fields vs → a ∉ frs (X.env :: X.outer) := fun {h o vs} ff e dd hm => by
      obtain ⟨_, o', e', hnf⟩ := ff.mem hm
      rw [e] at e'; cases e'
      exact hnf _ dd
    have nfr := notFr fl3.2.2.1 he3 hd3
    have nL : a ≠ X.env.locals := fun z => nfr (List.mem_filterMap.mpr ⟨X.env, List.mem_cons_self, by rw [hf, z]⟩)
    have nF : a ∉ X.fs := fun hm => by
      obtain ⟨e, he, q⟩ := List.mem_filterMap.mp hm
      exact nfr (List.mem_filterMap.mpr ⟨e, List.mem_cons_of_mem _ he, q⟩)
    have S3 := J3.suite he3 hd3 na nL nF
    have go : ∀ {hds' : List ExceptHandler} {l' : List (Value × Nat × (Addr → Value → Option Addr → TS))}, HdsAs X hds' l' → wManyAs X.K Wout D l' cls d σ' H' →
        wpAny (model X.prog X.w) X.A (handleBy (.ref a) X.env hds') (SP X pins D) X.xe { s' with heap := h3 } := by
      intro hds' l' hk
      induction hk with
      | nil =>
        intro w
        refine wpAny_handleBy_nil ?_
        obtain ⟨k1, k2, k3, oe, vs, T, oT, ts', he, hz, hd, h1, hr⟩ := id fl3
        unfold PySem.passOn
        refine wpAny_bind (wpAny_field he hd h1 ?_)
        rw [if_neg (show ¬ ((Value.ref T == Value.none) = true) from by simp)]
        have fin : wpAny (model X.prog X.w) X.A (setFlight (.ref a) X.env.frame) (fun _ s4 => wpAny (model X.prog X.w) X.A (throw (.ref a) : Sem Flow) (SP X pins D) X.xe s4) X.xe { s' with heap := h3 } := by
          rw [hf]
          refine HandSPX.setFlight_upZ fl3 fun h4 hh4 up4 => wpAny_throw (tk _ _ ?_)
          exact ⟨a, B, sI, pins, σ', H', cls, d, rfl, J, nb, (up.trans up3).trans up4, .inr (.inr (by rw [hs]; exact hh4)), na, os, ag, w⟩
        first
          | exact wpAny_bind (wpAny_pure (wpAny_bind fin))
          | exact wpAny_bind fin
      | @cons x n c i ts b₀ suite np pos' hds2 l2 hc hi hln hsu r ih =>
        intro w
        have hloc : Loc X.env.scope n := .inl hln
        obtain ⟨b, hb1, hyes, hno⟩ := w
        refine wpAny_handleBy_cons (codeAny_handlers_test ?_) (by intro q; cases q)
        have LT : PySem.W.Looks (model X.prog X.w) h3 (typeOf (.ref a)) cls := fun A Q E s k q => wpAny_typeOf_ref (k _ _ he3) (by rw [hz3.1]; exact q)
        have LM := PySem.W.exm_one (M := model X.prog X.w) (J3.kIn) LT hb1
        have test : ∀ {Q : Value → Shared → Prop} {E : Value → Shared → Prop}, Q c { s' with heap := h3 } → wpAny (model X.prog X.w) (X.A.mark (some (.ref a))) (eval (.Name x np) X.env) Q E { s' with heap := h3 } := fun {Q E} q => by
          obtain ⟨hg, hdbg, hm | ⟨hm, hv, hnn⟩⟩ := hc
          · exact ld_glob (X := X.suite a ((a, oe3) :: (X.pn ++ pins))) S3 hg hm q hdbg
          · exact ld_blt (X := X.suite a ((a, oe3) :: (X.pn ++ pins))) S3 hg hm hv q hnn hdbg
        refine test (LM.here ?_)
        cases b with
        | true =>
          refine codeAny_handlers_suite_as ?_
          refine HandSPX.lands_againZ fl3 fun h4 fl4 up4 => ?_
          have J4 : Inv X pins σ' H' { s' with heap := h4 } := J.landed nb fl4.1 ((up.trans up3).trans up4) os ag
          obtain ⟨oe4, vs4, he4, hz4, hd4⟩ := fl4.there
          have S4 := J4.suite he4 hd4 na nL nF
          refine store_ok (X := X.suite a ((a, oe4) :: (X.pn ++ pins))) (v := .ref a) S4 hN hi hloc rfl (fun s5 S5 => ?_) (.inr hln)
          refine wpAny_mono ((hsu a oe4 cls d (X.pn ++ pins) hz4 ⟨_, hd4⟩).run [] s5 _ H' _ S5 (hyes rfl a na)) (fun f s6 hsp => ?_) (fun _ _ z => False.elim z)
          have end_ : ∀ {σ6 : St} {H6 : Hp} {Q : Shared → Prop}, Inv (X.suite a ((a, oe4) :: (X.pn ++ pins))) [] σ6 H6 s6 → (∀ s7, Inv X pins (σ6.set i none) H6 s7 → Q s7) →
              wpAny (model X.prog X.w) X.A (do bindName X.env n .none; unbindBehindTheSuite X.env n pos') (fun _ s7 => Q s7) X.xe s6 := fun {σ6 H6 Q} S6 hq => gone_ok (S6.unsuite ok) hN hi hln hq
          cases f with
          | next =>
            obtain ⟨σ6, H6, S6, q6⟩ := hsp
            exact end_ S6 fun s7 J7 => ⟨_, _, J7, q6⟩
          | brk =>
            obtain ⟨σ6, H6, S6, q6⟩ := hsp
            exact end_ S6 fun s7 J7 => ⟨_, _, J7, q6⟩
          | cont =>
            obtain ⟨σ6, H6, S6, q6⟩ := hsp
            exact end_ S6 fun s7 J7 => ⟨_, _, J7, q6⟩
          | ret u =>
            obtain ⟨v6, σ6, H6, S6, r6, q6⟩ := hsp
            exact end_ S6 fun s7 J7 => ⟨_, _, _, J7, r6, q6⟩
        | false =>
          show wpAny _ X.A (handleBy (.ref a) X.env hds2) _ _ _
          exact ih (hno rfl)
    exact go hh w
  · cases f with
    | next =>
      obtain ⟨σ', H', J', q⟩ := hsp
      exact wpAny_execs_nil ⟨σ', H', J'.ofTry ok, q⟩
    | brk =>
      obtain ⟨σ', H', J', q⟩ := hsp
      exact ⟨σ', H', J'.ofTry ok, q⟩
    | cont =>
      obtain ⟨σ', H', J', q⟩ := hsp
      exact ⟨σ', H', J'.ofTry ok, q⟩
    | ret u =>
      obtain ⟨v, σ', H', J', r, q⟩ := hsp
      exact ⟨v, σ', H', J'.ofTry ok, r, q⟩
end
/-- isinstance(e, c), e the exception that the suite holds, with its dict or none -/
theorem call_isEd {X : Cx} {a D : Addr} {oe : Obj} {dd : Option Addr} {pn : List (Addr × Obj)} (C : ExcC X.K D) (hz : Zc (.ref D) dd oe) (hf : ∃ vs, oe.data = .fields vs) :
    CallR (X.suite a ((a, oe) :: pn)) (.builtin "isinstance") (fun xs H Q => ∃ (c : V) (cv : Value) (b : Bool), xs = [.ref a, c] ∧ (∀ u, RelV c u → u = cv) ∧ PySem.W.kitOne X.K (.ref D) cv = some b ∧ (∀ d, dd = some d → ∃ fs, H d = some (.xd fs)) ∧ Q (.bl b) H) := by
  intro pins s σ H xs us Q I r h
  obtain ⟨c, cv, b, rfl, hcv, e, hdd, q⟩ := h
  cases r with
  | cons rx rr =>
    cases rr with
    | cons rt rr =>
      cases rr
      cases rx
      have ec := hcv _ rt
      subst ec
      obtain ⟨hget, _⟩ := I.pin (a, oe) (List.mem_append.mpr (.inl List.mem_cons_self))
      obtain ⟨vs, hv⟩ := hf
      have J : ∃ od, PySem.W.InstAt s.heap a oe D od := by
        cases dd with
        | none =>
          obtain ⟨oc, od, oda, osl⟩ := oe
          obtain ⟨h1, h2⟩ := hz
          dsimp only at h1 h2 hv
          subst h1 h2 hv
          exact ⟨none, hget, rfl, rfl, trivial⟩
        | some d =>
          obtain ⟨fs, ef⟩ := hdd d rfl
          have hx : ObjOk X.prog X.w H s.heap d (.xd fs) := I.hok d _ ef
          obtain ⟨mA, hns, hr⟩ := hx
          obtain ⟨od, ho, _⟩ := lookIn_ns hns
          exact ⟨some od, hget, hz.1, by unfold PySem.W.notCls; rw [hv] <;> rfl, by rw [hz.2]; exact ho⟩
      obtain ⟨od, J⟩ := J
      have cl : (PySem.W.clsIn X.K D).isSome = true := by
        obtain ⟨cd, h, _⟩ := PySem.W.any_some C.hd
        rw [h]
        rfl
      exact PySem.W.kia_one (PySem.W.kitx_exc cl C.hg C.hk C.hs C.ha C.hn C.ht C.hm) I.kIn J e (fun z => nomatch z) fun tk => ⟨.bl b, H, I.kept (t' := tk) fun _ _ z => z, rfl, q⟩
end L2
end
section
/-! Pd: raise and try as statements. -/
namespace Pd
open PySem PySem.Spec PyProof.Rows L2
section
variable {g : G} {Φ : Nat → Fn} {Cn : List D} {k : Nat} {sc : Sk} {X : Cx} {W : WX} {β : Option Addr} {M0 : List Addr} {ms : List (Option Addr)} {H H1 H2 : Hp} {σ : L2.St} {ρ : Env} {s s1 s2 : Bx} {Q : VK} {D : Ends}
variable {a b e : Expr} {es : List Expr} {ma mb : Env → M PyData} {oa ob : Env → Bool} {mS : Env → SM} {sts : List Stmt} {pos p2 p pos2 : Pos}
/-- a new object that is none of data -/
theorem At.newX (A : At g Φ Cn k sc X W β M0 ms H σ ρ s) {d : Addr} {o : HO} (hd : H d = none) : Ext β (M0 ++ owns ms) H s (upd H d o) s := Ext.new A.box A.liveA hd
theorem s_rz0 {c : Nat} {ei : EI} (hi : g.errs[c]? = some ei) (hf : ei.fld = none) (hg : gloB sc.run ei.nm = true) (ok : okN ei.nm = true) :
    SS g Φ Cn k sc (.Raise (some (.Call (.Name ei.nm p) [] [] pos)) none pos2) (fun ρ s => .exc c none ρ s) := by
  intro X W β M0 ms H σ ρ s D A h
  obtain ⟨C, F⟩ := A.good.gf.er c ei hi
  have mk := F.mak
  rw [hf] at mk
  obtain ⟨B, newId, initId, bmB, FB, q⟩ := mk
  refine wS.of (ps_raise A.good.calm A.good.tk (pmk_own0 FB q F.gC F.kC (raises_own F.ex.hs F.tyC) (A.good.glo hg) (okN_d ok))) ?_
  refine h ms H σ (.ref C) none .refl A ⟨ei, hi, F.gC, ?_⟩
  rw [hf]
theorem s_rz1 {c : Nat} {ei : EI} {f : Str} (hi : g.errs[c]? = some ei) (hf : ei.fld = some f) (hg : gloB sc.run ei.nm = true) (ok : okN ei.nm = true) (he : SB g Φ Cn k sc a ma oa) :
    SS g Φ Cn k sc (.Raise (some (.Call (.Name ei.nm p) [a] [] pos)) none pos2) (fun ρ => if oa ρ then .bad else Pd.lft ρ (.bind (ma ρ) fun x => .pure (some x)) fun q s => .exc c q ρ s) := by
  intro X W β M0 ms H σ ρ s D A h
  obtain ⟨C, F⟩ := A.good.gf.er c ei hi
  have mk := F.mak
  rw [hf] at mk
  obtain ⟨B, newId, initId, bmB, fI, q, FB, T, n1, n2, n3, n4, bi⟩ := mk
  refine wS.of (ps_raise A.good.calm A.good.tk (pmk_err FB T n1 n2 n3 n4 bi F.gC F.kC F.ex.hs F.tyC A.good.room (pa_cons (wE_pe a) pa_nil (plain_star he.pl)) (A.good.glo hg) (okN_d ok) (plain_star he.pl))) ?_
  have h : PostS g Φ Cn k sc X W β M0 ms H ((if oa ρ then SM.bad else Pd.lft ρ (.bind (ma ρ) fun x => .pure (some x)) fun q s => .exc c q ρ s) s) D := h
  cases eo : oa ρ with
  | true =>
    rw [eo] at h
    exact h.elim
  | false =>
    rw [eo] at h
    refine he.ex.use A ((PostM.bind (PostS.lft h A)).imp fun x H1 s1 e1 h1 v r r0 => ?_)
    refine ⟨v, rfl, fun d hd => ?_⟩
    have A1 := A.ext e1
    have n1 := A1.newX (o := .xd [(f, v)]) hd
    have h2 := PostM.here h1 A1.box
    refine h2 ms _ σ (.ref C) (some d) (.ext n1) (A1.ext n1) ⟨ei, hi, F.gC, ?_⟩
    rw [hf]
    exact ⟨d, v, rfl, upd_same, (r0 eo).same n1.same⟩

/-! ### the suite: name = [..] -/
/-- the readings of a suite, the same for every error -/
def uSu (X : Cx) (su : List Stmt) : Addr → Value → Option Addr → TS := fun a cls d D σ H => ∀ (oe : Obj) (pn : List (Addr × Obj)), Zc cls d oe → (∃ vs, oe.data = .fields vs) → wSs (X.suite a ((a, oe) :: pn)) su D σ H
theorem uSu_ps (X : Cx) (su : List Stmt) (a : Addr) (oe : Obj) (cls : Value) (d : Option Addr) (pn : List (Addr × Obj)) (hz : Zc cls d oe) (hf : ∃ vs, oe.data = .fields vs) : PSs (X.suite a ((a, oe) :: pn)) su (uSu X su a cls d) :=
  ⟨fun pins s σ H D I q => (wSs_ps su).run pins s σ H D I (q oe pn hz hf)⟩
def litC : PyData → Const → Bool
  | .int i, .int j => decide (i = j)
  | .bool i, .bool j => decide (i = j)
  | .str i, .str j => decide (i = j)
  | .none, .none => true
  | _, _ => false
/-- an item of the suite's list: x the error's name (slot i), its class by ei -/
def mHI (g : G) (sc : Sk) (ei : EI) (x : Str) : HI → Expr → Bool
  | .lit d, .Constant c _ _ => litC d c
  | .fld, .Attribute (.Name y _) f _ => decide (y = x) && decide (ei.fld = some f)
  | .isi b, .Call (.Name z _) [.Name y _, .Name t _] [] _ => decide (z = "isinstance") && decide (z ∈ g.free) && gloB sc.run z && decide (y = x) && decide (t ∈ g.free) && gloB sc.run t && ((decide (t = "LookupError") && (ei.look == b)) || (decide (t = "ValueError") && ((!ei.look) == b)))
  | _, _ => false
def mHIs (g : G) (sc : Sk) (ei : EI) (x : Str) : List HI → List Expr → Bool
  | [], [] => true
  | i :: r, e :: t => mHI g sc ei x i e && mHIs g sc ei x r t
  | _, _ => false
def mHE (g : G) (sc : Sk) (ei : EI) (x : Str) : HE → Expr → Bool
  | .lst xs, .List es _ => decide (xs.length ≤ 1000) && mHIs g sc ei x xs es
  | .one i, e => mHI g sc ei x i e
  | _, _ => false
theorem mHI_pl {ei : EI} {x : Str} {i : HI} {e : Expr} (h : mHI g sc ei x i e = true) : plainE e = true := by
  unfold mHI at h
  split at h <;> first | rfl | cases h
/-- what the suite stands on -/
structure Su (g : G) (sc : Sk) (X : Cx) (K : PySem.W.Frag) (M : List Addr) (i : Nat) (x : Str) (ei : EI) (a C : Addr) (dd : Option Addr) (p : Option PyData) (σ : L2.St) (H : Hp) : Prop where
  nm : X.N[i]? = some x
  vis : Vis X.env.scope x
  ok : okN x = true
  sl : σ[i]? = some (some (.ref a))
  F : ErF X.prog X.K X.mg ei C
  eK : K = X.K
  glo : ∀ y, gloB sc.run y = true → Gl X y
  free : ∀ y ∈ g.free, X.mg y = none
  dat : match ei.fld, p with
    | none, none => dd = none
    | some f, some d => ∃ a v, dd = some a ∧ H a = some (.xd [(f, v)]) ∧ Rp K (hid M H) v d
    | _, _ => False
theorem Su.xd {K : PySem.W.Frag} {M : List Addr} {i : Nat} {x : Str} {ei : EI} {a C : Addr} {dd : Option Addr} {p : Option PyData} (S : Su g sc X K M i x ei a C dd p σ H) : ∀ d, dd = some d → ∃ fs, H d = some (.xd fs) := fun d e => by
  have q := S.dat
  cases ef : ei.fld with
  | none =>
    rw [ef] at q
    cases p with
    | none =>
      have q : dd = none := q
      rw [e] at q
      cases q
    | some y => exact q.elim
  | some f =>
    rw [ef] at q
    cases p with
    | none => exact q.elim
    | some y =>
      obtain ⟨a', v, e2, e3, _⟩ := q
      rw [e] at e2
      cases e2
      exact ⟨_, e3⟩
theorem su_item {K : PySem.W.Frag} {M : List Addr} {i : Nat} {x : Str} {ei : EI} {a C : Addr} {dd : Option Addr} {c : Nat} {pd : Option PyData} {oe : Obj} {pn : List (Addr × Obj)} (S : Su g sc X K M i x ei a C dd pd σ H) (hz : Zc (.ref C) dd oe) (hf : ∃ vs, oe.data = .fields vs)
    {h : HI} {e : Expr} {d : PyData} (m : mHI g sc ei x h e = true) (ev : hi c pd h = some d) {R : VK} (q : ∀ v, Rp K (hid M H) v d → R v H) : wE (X.suite a ((a, oe) :: pn)) e σ H R := by
  unfold mHI at m
  split at m
  · rename_i d' c' _ _
    cases ev
    unfold litC at m
    split at m
    · rw [decide_eq_true_eq] at m
      subst m
      exact wE.of pe_int (q _ (.int _))
    · rw [decide_eq_true_eq] at m
      subst m
      exact wE.of pe_bl (q _ (.bl _))
    · rw [decide_eq_true_eq] at m
      subst m
      exact wE.of pe_str (q _ (.str _))
    · exact wE.of pe_non (q _ .non)
    · cases m
  · rename_i y _ f _
    rw [Bool.and_eq_true, decide_eq_true_eq, decide_eq_true_eq] at m
    obtain ⟨rfl, ef⟩ := m
    have mk := S.F.mak
    rw [ef] at mk
    obtain ⟨B', newId, initId, bmB, fI, qn, FB, T, n1, n2, n3, n4, bi⟩ := mk
    have dt := S.dat
    rw [ef] at dt
    cases pd with
    | none => exact dt.elim
    | some dv =>
      obtain ⟨a', v, e2, e3, e4⟩ := dt
      have ev : some dv = some d := ev
      cases ev
      have vr : ∀ pp, PE (X.suite a ((a, oe) :: pn)) (.Name y pp) (tVar i) := fun pp => pe_var (X := X.suite a ((a, oe) :: pn)) (i := i) S.nm S.vis (okN_d S.ok) (okN_c S.ok)
      refine wE.of (pe_xf (C := C) ⟨S.F.ex.hg, S.F.ex.hk, S.F.ex.hs, S.F.ex.hd⟩ T.noN hz hf (vr _)) ?_
      exact ⟨_, S.sl, rfl, rfl, a', _, v, e2, e3, by simp [List.lookup], q v e4⟩
  · rename_i b z _ y _ t _ _
    simp only [Bool.and_eq_true, Bool.or_eq_true, decide_eq_true_eq] at m
    obtain ⟨⟨⟨⟨⟨⟨rfl, m2⟩, m3⟩, rfl⟩, m5⟩, m6⟩, m7⟩ := m
    cases ev
    have vr : ∀ pp, PE (X.suite a ((a, oe) :: pn)) (.Name y pp) (tVar i) := fun pp => pe_var (X := X.suite a ((a, oe) :: pn)) (i := i) S.nm S.vis (okN_d S.ok) (okN_c S.ok)
    rcases m7 with ⟨rfl, e⟩ | ⟨rfl, e⟩
    · have e : ei.look = b := by simpa using e
      have pt : ∀ pp, PE (X.suite a ((a, oe) :: pn)) (.Name "LookupError" pp) (tC (.ty "LookupError")) := fun pp => pe_bltn (X := X.suite a ((a, oe) :: pn)) (S.glo _ m6) (S.free _ m5) rfl rfl (by decide) (by decide)
      refine wE.of (pe_callB (call_isEd (dd := dd) S.F.ex hz hf) (S.glo _ m3) (S.free _ m2) rfl (pa_cons (vr _) (pa_cons (pt _) pa_nil rfl) rfl) (by decide) (by decide) rfl rfl) ?_
      exact ⟨_, S.sl, _, _, _, rfl, (fun u r => r), S.F.lk, S.xd, by rw [e]; exact q _ (.bl _)⟩
    · have e : (!ei.look) = b := by simpa using e
      have pt : ∀ pp, PE (X.suite a ((a, oe) :: pn)) (.Name "ValueError" pp) (tC (.ty "ValueError")) := fun pp => pe_bltn (X := X.suite a ((a, oe) :: pn)) (S.glo _ m6) (S.free _ m5) rfl rfl (by decide) (by decide)
      refine wE.of (pe_callB (call_isEd (dd := dd) S.F.ex hz hf) (S.glo _ m3) (S.free _ m2) rfl (pa_cons (vr _) (pa_cons (pt _) pa_nil rfl) rfl) (by decide) (by decide) rfl rfl) ?_
      exact ⟨_, S.sl, _, _, _, rfl, (fun u r => r), S.F.vl, S.xd, by rw [e]; exact q _ (.bl _)⟩
  · cases m
theorem su_items {K : PySem.W.Frag} {M : List Addr} {i : Nat} {x : Str} {ei : EI} {a C : Addr} {dd : Option Addr} {c : Nat} {pd : Option PyData} {oe : Obj} {pn : List (Addr × Obj)} (S : Su g sc X K M i x ei a C dd pd σ H) (hz : Zc (.ref C) dd oe) (hf : ∃ vs, oe.data = .fields vs) :
    ∀ {hs : List HI} {es : List Expr} {ds : List PyData}, mHIs g sc ei x hs es = true → his c pd hs = some ds → ∀ {R : List V → Hp → Prop}, (∀ vs, RpA K (hid M H) vs ds → R vs H) → wA (X.suite a ((a, oe) :: pn)) es σ H R
  | [], [], ds, m, ev, R, q => by
    cases ev
    exact wA.of pa_nil (q [] .nil)
  | h :: hs, e :: es, ds, m, ev, R, q => by
    have m : (mHI g sc ei x h e && mHIs g sc ei x hs es) = true := m
    rw [Bool.and_eq_true] at m
    have ev : ((hi c pd h).bind fun d => (his c pd hs).map (d :: ·)) = some ds := ev
    obtain ⟨d, e1, e2⟩ := Option.bind_eq_some_iff.mp ev
    obtain ⟨ds', e3, e4⟩ := Option.map_eq_some_iff.mp e2
    subst e4
    refine wA.of (pa_cons (wE_pe e) (wA_pa es) (plain_star (mHI_pl m.1))) ?_
    refine su_item S hz hf m.1 e1 fun v r => ?_
    exact su_items S hz hf m.2 e3 fun vs rs => q _ (.cons r rs)
  | [], _ :: _, ds, m, ev, R, q => by cases m
  | _ :: _, [], ds, m, ev, R, q => by cases m

/-! ### try -/
theorem his_len {c : Nat} {pd : Option PyData} : ∀ {hs : List HI} {ds : List PyData}, his c pd hs = some ds → ds.length = hs.length
  | [], ds, h => by
    cases h
    rfl
  | x :: hs, ds, h => by
    have h : ((hi c pd x).bind fun d => (his c pd hs).map (d :: ·)) = some ds := h
    obtain ⟨d, e1, e2⟩ := Option.bind_eq_some_iff.mp h
    obtain ⟨ds', e3, e4⟩ := Option.map_eq_some_iff.mp e2
    subst e4
    rw [List.length_cons, List.length_cons, his_len e3]
/-- a suite's expression -/
theorem su_he {i : Nat} {x : Str} {ei : EI} {a C : Addr} {dd : Option Addr} {c : Nat} {pd : Option PyData} {oe : Obj} {pn : List (Addr × Obj)} {σ' : L2.St} (A : At g Φ Cn k sc X W β M0 ms H σ ρ s) (S : Su g sc X X.K (M0 ++ owns ms) i x ei a C dd pd σ' H) (hz : Zc (.ref C) dd oe) (hf : ∃ vs, oe.data = .fields vs)
    {h : HE} {e : Expr} {d : PyData} (m : mHE g sc ei x h e = true) (ev : he c pd h = some d) {R : VK} (q : ∀ v H', Ext β (M0 ++ owns ms) H s H' s → Rp X.K (hid (M0 ++ owns ms) H') v d → R v H') : wE (X.suite a ((a, oe) :: pn)) e σ' H R := by
  unfold mHE at m
  split at m
  · rename_i xs es _
    rw [Bool.and_eq_true, decide_eq_true_eq] at m
    obtain ⟨ds, e1, e2⟩ := Option.map_eq_some_iff.mp (show (his c pd xs).map PyData.list = some d from ev)
    subst e2
    have hl : ds.length ≤ sizeLine := by
      rw [his_len e1, sizeLine_eq]
      omega
    refine wE.of (pe_lst (wA_pa es)) ?_
    refine su_items S hz hf m.2 e1 fun vs r => ⟨by rw [r.length]; exact hl, fun u hu => ?_⟩
    exact q _ _ (Ext.new A.box A.liveA hu) (new_list A.liveA hu r)
  · exact su_item (c := c) S hz hf m ev fun v r => q v H (Ext.refl A.box) r
  · cases m
theorem wSs.len {X : Cx} {su : List Stmt} {D : Ends} {σ : L2.St} {H : Hp} (h : σ.length = X.N.length → wSs X su D σ H) : wSs X su D σ H :=
  wSs.of (t := fun D σ H => σ.length = X.N.length → wSs X su D σ H) ⟨fun pins s σ H D I q => (wSs_ps su).run pins s σ H D I (q I.len)⟩ h
def mHds (g : G) (sc : Sk) : List (Nat × Nat × Hd) → List ExceptHandler → Bool
  | [], [] => true
  | (c, i, .asg k e) :: r, .ExceptHandler (some (.Name x _)) (some n) [.Assign [.Name y _] e' _] _ :: t => (match g.errs[c]? with
    | some ei => decide (x = ei.nm) && gloB sc.run ei.nm && okN ei.nm && decide (g.N[i]? = some n) && decide (sc.run.names.lookup n = some .local) && okN n && nmOk g sc k y && notComp e' && mHE g sc ei n e e'
    | none => false) && mHds g sc r t
  | _, _ => false
theorem At.clear (A : At g Φ Cn k sc X W β M0 ms H σ ρ s) {i : Nat} {o : Option V} : At g Φ Cn k sc X W β M0 (ms.set i none) H (σ.set i o) (ρ.set i .un) s := ⟨A.good, A.rel.clear, A.box, A.live, A.bin⟩
/-- one of the clauses -/
theorem hd_one {c i kk : Nat} {n y : Str} {ei : EI} {e : HE} {e' : Expr} {cls : Value} {dd : Option Addr} {pd : Option PyData} {yp ap : Pos} {H' : Hp} {σ' : L2.St} {ρ' : Env} {s' : Bx} {ms' : List (Option Addr)}
    (G0 : Good g Φ Cn k sc X W) (he : g.errs[c]? = some ei) (hn : g.N[i]? = some n) (hl : sc.run.names.lookup n = some .local) (ok : okN n = true) (hy : nmOk g sc kk y = true) (nc : notComp e' = true) (m : mHE g sc ei n e e' = true)
    (st : Step β M0 ms H ms' H') (A : At g Φ Cn k sc X W β M0 ms' H' σ' ρ' s') (er : ErrR X.K X.mg g (M0 ++ owns ms') c pd cls dd H') (h : PostS g Φ Cn k sc X W β M0 ms H (hdR c pd i (.asg kk e) ρ' s') D) {a : Addr} :
    uSu X [.Assign [.Name y yp] e' ap] a cls dd (endAs D i) (σ'.set i (some (.ref a))) H' := by
  intro oe pn hz hf
  obtain ⟨ei', e1, e2, e3⟩ := er
  rw [he] at e1
  cases e1
  obtain ⟨C, F⟩ := G0.gf.er c ei he
  have ec : cls = .ref C := by
    have := F.gC
    rw [e2] at this
    exact Option.some.inj this
  subst ec
  unfold hdR at h
  dsimp only at h
  cases ev : Pd.he c pd e with
  | none =>
    rw [ev] at h
    exact h.elim
  | some d =>
    rw [ev] at h
    refine wSs.len fun hlen => ?_
    have A1 : At g Φ Cn k sc X W β M0 (ms'.set i none) H' (σ'.set i (some (.ref a))) (ρ'.set i .un) s' := A.clear
    have ilt : i < σ'.length := by
      have : (σ'.set i (some (.ref a))).length = X.N.length := hlen
      rw [List.length_set] at this
      rw [this, G0.nm]
      exact (List.getElem?_eq_some_iff.mp hn).1
    have S : Su g sc X X.K (M0 ++ owns (ms'.set i none)) i n ei a C dd pd (σ'.set i (some (.ref a))) H' := by
      refine ⟨by rw [G0.nm]; exact hn, G0.vis (by unfold visB; rw [hl]), ok, List.getElem?_set_self ilt, F, rfl, fun y hy => G0.glo hy, fun y hy => G0.none hy, ?_⟩
      revert e3
      cases ei.fld with
      | none => cases pd <;> exact id
      | some f =>
        cases pd with
        | none => exact id
        | some dv => exact fun ⟨a', v, g1, g2, g3⟩ => ⟨a', v, g1, g2, g3.same (hid_le (A.mem_none i))⟩
    obtain ⟨h1, h2, h3⟩ := G0.loc hy
    refine wSs.of (pss_one (ps_set (X := X.suite a ((a, oe) :: pn)) G0.nd h1 h2 (wE_pe e') (noswap nc) h3)) ?_
    refine su_he A1 S hz hf m ev fun v H2 x r => ?_
    have A2 := A1.ext x
    have A3 := A2.put (i := kk) r
    have A4 : At g Φ Cn k sc X W β M0 _ H2 _ _ s' := A3.clear (i := i) (o := none)
    refine h _ H2 _ ?_ A4
    exact st.trans ((Step.fewer (owns_none _ i)).trans ((Step.ext x).trans ((Step.fewer (owns_none _ kk)).trans (Step.fewer (owns_none _ i)))))
/-- the clauses' list -/
def hdL (X : Cx) (mg : Str → Option Value) (g : G) : List (Nat × Nat × Hd) → List ExceptHandler → List (Value × Nat × (Addr → Value → Option Addr → TS))
  | (c, i, _) :: r, .ExceptHandler _ _ su _ :: t => (((g.errs[c]?).bind fun ei => mg ei.nm).getD .none, i, uSu X su) :: hdL X mg g r t
  | _, _ => []
theorem hdL_ok (G0 : Good g Φ Cn k sc X W) : ∀ {hs : List (Nat × Nat × Hd)} {hds : List ExceptHandler}, mHds g sc hs hds = true → HdsAs X hds (hdL X X.mg g hs hds)
  | [], [], _ => .nil
  | (c, i, h) :: r, hd :: t, m => by
    unfold mHds at m
    split at m
    · rename_i h1 h2
      cases h1
    · rename_i c' i' k' e' r' x xp n y yp e2 ap hp t' h1 h2
      cases h1
      cases h2
      rw [Bool.and_eq_true] at m
      obtain ⟨m, m2⟩ := m
      split at m
      · rename_i ei he
        simp only [Bool.and_eq_true, decide_eq_true_eq] at m
        obtain ⟨⟨⟨⟨⟨⟨⟨⟨rfl, q1⟩, q2⟩, q3⟩, q4⟩, q5⟩, q6⟩, q7⟩, q8⟩ := m
        obtain ⟨C, F⟩ := G0.gf.er c ei he
        have ev : (((g.errs[c]?).bind fun ei => X.mg ei.nm).getD .none) = .ref C := by
          rw [he, Option.bind_some, F.gC]
          rfl
        have rest := hdL_ok G0 m2
        show HdsAs X _ ((((g.errs[c]?).bind fun ei => X.mg ei.nm).getD .none, i, uSu X _) :: hdL X X.mg g r t)
        rw [ev]
        refine .cons (n := n) ⟨G0.glo q1, okN_d q2, .inl F.gC⟩ (by rw [G0.nm]; exact q3) ?_ (fun a oe cls d pn hz hf => uSu_ps X _ a oe cls d pn hz hf) rest
        show X.env.scope.names.lookup n = _
        rw [G0.sc_]
        exact q4
      · cases m
    · cases m
  | [], _ :: _, m => by cases m
  | (_, _, .asg _ _) :: _, [], m => by cases m
  | (_, _, .ret _) :: _, [], m => by cases m
theorem many_ok (G0 : Good g Φ Cn k sc X W) {c : Nat} {pd : Option PyData} {cls : Value} {dd : Option Addr} {H' : Hp} {σ' : L2.St} {ρ' : Env} {s' : Bx} {ms' : List (Option Addr)}
    (st : Step β M0 ms H ms' H') (A : At g Φ Cn k sc X W β M0 ms' H' σ' ρ' s') (er : ErrR X.K X.mg g (M0 ++ owns ms') c pd cls dd H') :
    ∀ {hs : List (Nat × Nat × Hd)} {hds : List ExceptHandler}, mHds g sc hs hds = true →
      PostS g Φ Cn k sc X W β M0 ms H (match hs.find? fun h => h.1 == c with
        | none => .exc c pd ρ' s'
        | some (_, i, h) => hdR c pd i h ρ' s') D → wManyAs X.K W D (hdL X X.mg g hs hds) cls dd σ' H'
  | [], [], _, h => h ms' H' σ' cls dd st A er
  | (c0, i, hh) :: r, hd :: t, m, h => by
    unfold mHds at m
    split at m
    · rename_i h1 h2
      cases h1
    · rename_i c' i' k' e' r' x xp n y yp e2 ap hp t' h1 h2
      cases h1
      cases h2
      rw [Bool.and_eq_true] at m
      obtain ⟨m, m2⟩ := m
      split at m
      · rename_i ei he
        simp only [Bool.and_eq_true, decide_eq_true_eq] at m
        obtain ⟨⟨⟨⟨⟨⟨⟨⟨rfl, q1⟩, q2⟩, q3⟩, q4⟩, q5⟩, q6⟩, q7⟩, q8⟩ := m
        obtain ⟨C, F⟩ := G0.gf.er c0 ei he
        have ev : (((g.errs[c0]?).bind fun ei => X.mg ei.nm).getD .none) = .ref C := by
          rw [he, Option.bind_some, F.gC]
          rfl
        show wManyAs X.K W D ((((g.errs[c0]?).bind fun ei => X.mg ei.nm).getD .none, i, uSu X _) :: hdL X X.mg g r t) cls dd σ' H'
        rw [ev]
        obtain ⟨ei1, z1, z2, z3⟩ := id er
        refine ⟨decide (c = c0), G0.gf.exm c c0 ei1 ei cls (.ref C) z1 he z2 F.gC, fun b a ha => ?_, fun b => ?_⟩
        · have b : c = c0 := of_decide_eq_true b
          subst b
          rw [List.find?_cons_of_pos (by simp)] at h
          exact hd_one G0 he q3 q4 q5 q6 q7 q8 st A er h
        · have b : ¬ c = c0 := of_decide_eq_false b
          rw [List.find?_cons_of_neg (by simpa using fun z => b z.symm)] at h
          exact many_ok G0 st A er m2 h
      · cases m
    · cases m
  | [], _ :: _, m, h => by cases m
  | (_, _, .asg _ _) :: _, [], m, h => by cases m
  | (_, _, .ret _) :: _, [], m, h => by cases m
theorem s_try {hs : List (Nat × Nat × Hd)} {h₀ : ExceptHandler} {hds : List ExceptHandler} (top : sc.top = true) (hb : SSs g Φ Cn k sc sts mS) (m : mHds g sc hs (h₀ :: hds) = true) :
    SS g Φ Cn k sc (.Try sts (h₀ :: hds) [] [] pos) (fun ρ s => match mS ρ s with
      | .exc c p ρ' s' => (match hs.find? fun h => h.1 == c with
        | none => .exc c p ρ' s'
        | some (_, i, h) => hdR c p i h ρ' s')
      | o => o) := by
  intro X W β M0 ms H σ ρ s D A h
  obtain ⟨f1, f2⟩ := A.good.fr top
  refine wS.of (ps_try_manyAs (tb := fun W' D σ H => ∀ pn xe, Takes (X.tr pn xe) W' → PassesOwn (model X.prog X.w) X.A X.env xe → wSs (X.tr pn xe) sts D σ H) f1 f2 A.good.nd A.good.tk
    (fun W' pn xe tk' po => ⟨fun pins s σ H D I q => (wSs_ps sts).run pins s σ H D I (q pn xe tk' po)⟩) (hdL_ok A.good m)) ?_
  intro pn xe tk' po
  have G1 : Good g Φ Cn k sc (X.tr pn xe) (wManyAs X.K W D (hdL X X.mg g hs (h₀ :: hds))) :=
    ⟨⟨A.good.gf.fn, A.good.gf.lenF, A.good.gf.con, A.good.gf.free, A.good.gf.er, A.good.gf.exm, A.good.gf.bxs⟩, A.good.nm, A.good.nd, A.good.sc_, A.good.calm, A.good.room, tk', po, A.good.fr, A.good.fnm⟩
  have A1 : At g Φ Cn k sc (X.tr pn xe) (wManyAs X.K W D (hdL X X.mg g hs (h₀ :: hds))) β M0 ms H σ ρ s := ⟨G1, A.rel, A.box, A.live, A.bin⟩
  have back : ∀ {ms' : List (Option Addr)} {H' : Hp} {σ' : L2.St} {ρ' : Env} {s' : Bx}, At g Φ Cn k sc (X.tr pn xe) (wManyAs X.K W D (hdL X X.mg g hs (h₀ :: hds))) β M0 ms' H' σ' ρ' s' → At g Φ Cn k sc X W β M0 ms' H' σ' ρ' s' := fun B => ⟨A.good, B.rel, B.box, B.live, B.bin⟩
  refine hb (X.tr pn xe) _ β M0 ms H σ ρ s D A1 ?_
  have h : PostS g Φ Cn k sc X W β M0 ms H (match mS ρ s with
      | .exc c p ρ' s' => (match hs.find? fun h => h.1 == c with
        | none => .exc c p ρ' s'
        | some (_, i, h) => hdR c p i h ρ' s')
      | o => o) D := h
  cases e : mS ρ s with
  | bad =>
    rw [e] at h
    exact h
  | go fl ρ' s' =>
    rw [e] at h
    cases fl with
    | nx => exact fun ms' H' σ' st B => h ms' H' σ' st (back B)
    | brk => exact fun ms' H' σ' st B => h ms' H' σ' st (back B)
    | ct => exact fun ms' H' σ' st B => h ms' H' σ' st (back B)
    | ret d => exact fun ms' H' σ' v st B => h ms' H' σ' v st (back B)
  | exc c p ρ' s' =>
    rw [e] at h
    exact fun ms' H' σ' cls dd st B er => many_ok A.good st (back B) er m h
end
end Pd
end
section
/-! Pd: which code stands for which text: expressions. -/
namespace Pd
open PySem PySem.Spec PyProof.Rows L2
def litB : PyData → Const → Bool
  | .int i, .int j => decide (i = j)
  | .bool i, .bool j => decide (i = j)
  | .str i, .str j => decide (i = j)
  | .none, .none => true
  | _, _ => false
def noIn (o : CmpOp) : Bool := !decide (o = .In) && !decide (o = .NotIn)
def freeB (g : G) (sc : Sk) (x y : Str) : Bool := decide (x = y) && decide (y ∈ g.free) && gloB sc.run y
def ownP (g : G) (own : List Nat) : List (Str × Nat) := own.map fun i => ((g.N[i]?).getD "", i)
def tgIn (tg : Tg) (own : List Nat) : Bool := (tgSlots tg).all fun i => decide (i ∈ own)
section
variable (g : G)
mutual
def mE : Ex → Sk → Expr → Bool
  | .slot i => fun sc e => match e with
    | .Name x _ => decide (g.N[i]? = some x) && visB sc.run x && okN x
    | _ => false
  | .lit d => fun _ e => match e with
    | .Constant c _ _ => litB d c
    | _ => false
  | .glb j => fun sc e => match e with
    | .Name x _ => decide (g.cons[j]? = some x) && gloB sc.run x && okN x
    | _ => false
  | .bin o a b => fun sc e => match e with
    | .BinOp a' o' b' _ => decide (o = o') && mE a sc a' && mE b sc b'
    | _ => false
  | .neg a => fun sc e => match e with
    | .UnaryOp .USub a' _ => mE a sc a'
    | _ => false
  | .cmp o a b => fun sc e => match e with
    | .Compare a' [o'] [b'] _ => decide (o = o') && mE a sc a' && mE b sc b'
    | _ => false
  | .chn o1 o2 a b c => fun sc e => match e with
    | .Compare a' [p1, p2] [b', c'] _ => decide (o1 = p1) && decide (o2 = p2) && noIn o1 && noIn o2 && mE a sc a' && mE b sc b' && mE c sc c'
    | _ => false
  | .conj es => fun sc e => match e with
    | .BoolOp .And es' _ => mO es sc es'
    | _ => false
  | .disj es => fun sc e => match e with
    | .BoolOp .Or es' _ => mO es sc es'
    | _ => false
  | .nt a => fun sc e => match e with
    | .UnaryOp .Not a' _ => mE a sc a'
    | _ => false
  | .ite t a b => fun sc e => match e with
    | .IfExp t' a' b' _ => mE t sc t' && mE a sc a' && mE b sc b'
    | _ => false
  | .tup es => fun sc e => match e with
    | .Tuple es' _ _ => mL es sc es'
    | _ => false
  | .lst es => fun sc e => match e with
    | .List es' _ => mL es sc es'
    | _ => false
  | .idx a i => fun sc e => match e with
    | .Subscript a' i' _ => mE a sc a' && mE i sc i'
    | _ => false
  | .slc a lo hi => fun sc e => match e with
    | .Subscript a' (.Slice lo' hi' none _) _ => mE a sc a' && mP lo sc lo' && mP hi sc hi'
    | _ => false
  | .rev a => fun sc e => match e with
    | .Subscript a' (.Slice none none (some (.UnaryOp .USub (.Constant (.int j) _ _) _)) _) _ => decide (j = 1) && mE a sc a'
    | _ => false
  | .call f as => fun sc e => match e with
    | .Call (.Name x _) es [] _ => (match g.fns[f]? with
      | some fi => decide (x = fi.nm) && gloB sc.run fi.nm && okN fi.nm && mA as sc es
      | none => false)
    | _ => false
  | .bi b a => fun sc e => match e with
    | .Call (.Name x _) [a'] [] _ => (match biN b with
      | some (y, _) => freeB g sc x y && mE a sc a'
      | none => false)
    | _ => false
  | .bi2 b a c => fun sc e => match e with
    | .Call (.Name x _) [a', c'] [] _ => (match b with
      | .max => freeB g sc x "max"
      | .min => freeB g sc x "min"
      | _ => false) && mE a sc a' && mE c sc c'
    | _ => false
  | .isi a ts tp => fun sc e => match e with
    | .Call (.Name x _) [a', .Name y _] [] _ => (match ts with
      | [t] => freeB g sc x "isinstance" && freeB g sc y (tyN t) && mE a sc a'
      | _ => false)
    | .Call (.Name x _) [a', .Tuple [.Name y _, .Name z _] _ _] [] _ => (match ts with
      | [t, t2] => freeB g sc x "isinstance" && freeB g sc y (tyN t) && freeB g sc z (tyN t2) && mE a sc a'
      | _ => false)
    | _ => false
  | .kcall f ks pm es => fun sc e => match e with
    | .Call (.Name x _) [] kws _ => (match g.fns[f]? with
      | some fi => decide (x = fi.nm) && gloB sc.run fi.nm && okN fi.nm && decide ((f, ks, pm) ∈ g.kws) && kwOk ks kws && mK es sc kws
      | none => false)
    | _ => false
  | .sset a => fun sc e => match e with
    | .Call (.Name x _) [.Call (.Name y _) [a'] [] _] [] _ => freeB g sc x "sorted" && freeB g sc y "set" && mE a sc a'
    | _ => false
  | .lset a => fun sc e => match e with
    | .Call (.Name x _) [.Call (.Name y _) [a'] [] _] [] _ => freeB g sc x "len" && freeB g sc y "set" && mE a sc a'
    | _ => false
  | .bcall f kz a b => fun sc e => match e with
    | .Call (.Name x _) [.Call (.Name y _) [a', b'] [] _] [] _ => (match g.fns[f]?, g.bx with
      | some fi, some hi => decide (kz = g.bk) && decide (x = fi.nm) && gloB sc.run fi.nm && okN fi.nm && decide (y = hi.nm) && gloB sc.run hi.nm && okN hi.nm && mE a sc a' && mE b sc b'
      | _, _ => false)
    | _ => false
  | .bget i j => fun sc e => match e with
    | .Subscript (.Name x _) (.Constant (.int n) _ _) _ => decide (n = (j : Int)) && decide (j < 3) && decide (g.N[i]? = some x) && visB sc.run x && okN x
    | _ => false
  | .sslc i lo hi => fun sc e => match e with
    | .Subscript (.Name x _) (.Slice lo' hi' none _) _ => decide (g.N[i]? = some x) && visB sc.run x && okN x && mP lo sc lo' && mP hi sc hi'
    | _ => false
  | .comp elt own tg it c => fun sc e => match e with
    | .ListComp e' [⟨tgE, it', ifs, 0⟩] scope _ => blkC g.N sc.run scope (ownP g own) && tgOk g (bSk sc scope) tg tgE && tgIn tg own && mI it sc tgE it' && mC c (bSk sc scope) ifs && mE elt (bSk sc scope) e'
    | _ => false
  | .comp2 elt own own1 tg it c tg1 it1 c1 => fun sc e => match e with
    | .ListComp e' [⟨tgE, it', ifs, 0⟩, ⟨tg1E, it1', ifs1, 0⟩] scope _ => blkC g.N sc.run scope (ownP g own) && tgOk g (bSk sc scope) tg tgE && tgIn tg own && mI it sc tgE it' && mC c (bSk sc scope) ifs &&
        tgOk g (bSk sc scope) tg1 tg1E && tgIn tg1 own1 && (own1.all fun i => decide (i ∈ own)) && mI it1 (bSk sc scope) tg1E it1' && mC c1 (bSk sc scope) ifs1 && mE elt (bSk sc scope) e'
    | _ => false
  | .dcomp k v own tg it c => fun sc e => match e with
    | .DictComp k' v' [⟨tgE, it', ifs, 0⟩] scope _ => blkC g.N sc.run scope (ownP g own) && tgOk g (bSk sc scope) tg tgE && tgIn tg own && mI it sc tgE it' && mC c (bSk sc scope) ifs && mE k (bSk sc scope) k' && mE v (bSk sc scope) v'
    | _ => false
def mL : Exs → Sk → List Expr → Bool
  | .nil => fun _ es => match es with
    | [] => true
    | _ => false
  | .cons e r => fun sc es => match es with
    | e' :: r' => mE e sc e' && mL r sc r'
    | _ => false
  | .star e r => fun sc es => match es with
    | .Starred e' _ :: r' => mE e sc e' && mL r sc r'
    | _ => false
def mK : Exs → Sk → List Keyword → Bool
  | .nil => fun _ es => match es with
    | [] => true
    | _ => false
  | .cons e r => fun sc es => match es with
    | ⟨_, e', _⟩ :: r' => mE e sc e' && mK r sc r'
    | _ => false
  | .star _ _ => fun _ _ => false
def mO : Exs → Sk → List Expr → Bool
  | .nil => fun _ _ => false
  | .cons e r => fun sc es => match es with
    | [e'] => mE e sc e' && (match r with
      | .nil => true
      | _ => false)
    | e' :: e2 :: r' => mE e sc e' && mO r sc (e2 :: r')
    | _ => false
  | .star _ _ => fun _ _ => false
def mA : As → Sk → List Expr → Bool
  | .nil => fun _ es => match es with
    | [] => true
    | _ => false
  | .cons e r => fun sc es => match es with
    | e' :: r' => mE e sc e' && mA r sc r'
    | _ => false
  | .box i r => fun sc es => match es with
    | .Name x _ :: r' => decide (g.N[i]? = some x) && visB sc.run x && okN x && mA r sc r'
    | _ => false
  | .scr i r => fun sc es => match es with
    | .Name x _ :: r' => decide (g.N[i]? = some x) && visB sc.run x && okN x && mA r sc r'
    | _ => false
def mP : Eo → Sk → Option Expr → Bool
  | .no => fun _ o => match o with
    | none => true
    | _ => false
  | .so e => fun sc o => match o with
    | some e' => mE e sc e'
    | _ => false
def mC : Eo → Sk → List Expr → Bool
  | .no => fun _ o => match o with
    | [] => true
    | _ => false
  | .so e => fun sc o => match o with
    | [e'] => mE e sc e'
    | _ => false
def mI : It → Sk → Expr → Expr → Bool
  | .ex a => fun sc _ e => mE a sc e
  | .rng1 a => fun sc _ e => match e with
    | .Call (.Name x _) [a'] [] _ => freeB g sc x "range" && mE a sc a'
    | _ => false
  | .rng2 a b => fun sc _ e => match e with
    | .Call (.Name x _) [a', b'] [] _ => freeB g sc x "range" && mE a sc a' && mE b sc b'
    | _ => false
  | .enum a => fun sc tg e => match e with
    | .Call (.Name x _) [a'] [] _ => (match tg with
      | .Tuple _ _ _ => true
      | _ => false) && freeB g sc x "enumerate" && mE a sc a'
    | _ => false
  | .zip a b => fun sc tg e => match e with
    | .Call (.Name x _) [a', b'] [] _ => (match tg with
      | .Tuple _ _ _ => true
      | _ => false) && freeB g sc x "zip" && mE a sc a' && mE b sc b'
    | _ => false
end
end
theorem freeB_ok {g : G} {sc : Sk} {x y : Str} (h : freeB g sc x y = true) : x = y ∧ y ∈ g.free ∧ gloB sc.run y = true := by
  unfold freeB at h
  rw [Bool.and_eq_true, Bool.and_eq_true, decide_eq_true_eq, decide_eq_true_eq] at h
  exact ⟨h.1.1, h.1.2, h.2⟩
theorem ownP_ix {g : G} (own : List Nat) : (ownP g own).map (·.2) = own := by
  unfold ownP
  rw [List.map_map]
  exact List.map_id own
theorem tgIn_ok {tg : Tg} {own : List Nat} (h : tgIn tg own = true) : ∀ i ∈ tgSlots tg, i ∈ own := fun i hi => by
  have := List.all_eq_true.mp h i hi
  simpa using this
theorem noIn_ok {o : CmpOp} (h : noIn o = true) : o ≠ .In ∧ o ≠ .NotIn := by
  unfold noIn at h
  simp at h
  exact h
section
variable {g : G} {Φ : Nat → Fn} {Cn : List D} {k : Nat}
theorem lit_ok {sc : Sk} {d : PyData} {c : Const} {j : Nat} {pos : Pos} (h : litB d c = true) : SB g Φ Cn k sc (.Constant c j pos) (fun _ => .pure d) (fun _ => false) := by
  unfold litB at h
  split at h
  · rw [decide_eq_true_eq] at h
    subst h
    exact b_int
  · rw [decide_eq_true_eq] at h
    subst h
    exact b_bool
  · rw [decide_eq_true_eq] at h
    subst h
    exact b_str
  · exact b_none
  · cases h
mutual
theorem mE_ok : ∀ (c : Ex) (sc : Sk) (e : Expr), mE g c sc e = true → SB g Φ Cn k sc e (fun ρ => ev Φ Cn c ρ) (fun ρ => isOwn ρ c)
  | .slot i, sc, e, h => by
    unfold mE at h
    split at h
    · simp only [Bool.and_eq_true, decide_eq_true_eq] at h
      exact b_slot h.1.1 h.1.2 h.2
    · cases h
  | .lit d, sc, e, h => by
    unfold mE at h
    split at h
    · exact lit_ok h
    · cases h
  | .glb j, sc, e, h => by
    unfold mE at h
    split at h
    · simp only [Bool.and_eq_true, decide_eq_true_eq] at h
      exact b_glob h.1.1 h.1.2 h.2
    · cases h
  | .bin o a b, sc, e, h => by
    unfold mE at h
    split at h
    · simp only [Bool.and_eq_true, decide_eq_true_eq] at h
      obtain ⟨⟨rfl, h1⟩, h2⟩ := h
      exact b_bin (mE_ok a sc _ h1) (mE_ok b sc _ h2)
    · cases h
  | .neg a, sc, e, h => by
    unfold mE at h
    split at h
    · exact b_neg (mE_ok a sc _ h)
    · cases h
  | .cmp o a b, sc, e, h => by
    unfold mE at h
    split at h
    · simp only [Bool.and_eq_true, decide_eq_true_eq] at h
      obtain ⟨⟨rfl, h1⟩, h2⟩ := h
      exact b_cmp (mE_ok a sc _ h1) (mE_ok b sc _ h2)
    · cases h
  | .chn o1 o2 a b c, sc, e, h => by
    unfold mE at h
    split at h
    · simp only [Bool.and_eq_true, decide_eq_true_eq] at h
      obtain ⟨⟨⟨⟨⟨⟨rfl, rfl⟩, n1⟩, n2⟩, h1⟩, h2⟩, h3⟩ := h
      exact b_chn (mE_ok a sc _ h1) (mE_ok b sc _ h2) (mE_ok c sc _ h3) (noIn_ok n1) (noIn_ok n2)
    · cases h
  | .conj es, sc, e, h => by
    unfold mE at h
    split at h
    · exact b_bool_op (mAnd_ok es sc _ h)
    · cases h
  | .disj es, sc, e, h => by
    unfold mE at h
    split at h
    · exact b_bool_op (mOr_ok es sc _ h)
    · cases h
  | .nt a, sc, e, h => by
    unfold mE at h
    split at h
    · exact b_not (mE_ok a sc _ h)
    · cases h
  | .ite t a b, sc, e, h => by
    unfold mE at h
    split at h
    · simp only [Bool.and_eq_true] at h
      exact b_ite (mE_ok t sc _ h.1.1) (mE_ok a sc _ h.1.2) (mE_ok b sc _ h.2)
    · cases h
  | .tup es, sc, e, h => by
    unfold mE at h
    split at h
    · exact b_tup (mL_ok es sc _ h)
    · cases h
  | .lst es, sc, e, h => by
    unfold mE at h
    split at h
    · exact b_lst (mL_ok es sc _ h)
    · cases h
  | .idx a i, sc, e, h => by
    unfold mE at h
    split at h
    · simp only [Bool.and_eq_true] at h
      exact b_idx (mE_ok a sc _ h.1) (mE_ok i sc _ h.2)
    · cases h
  | .slc a lo hi, sc, e, h => by
    unfold mE at h
    split at h
    · simp only [Bool.and_eq_true] at h
      exact b_slc (mE_ok a sc _ h.1.1) (mP_ok lo sc _ h.1.2) (mP_ok hi sc _ h.2)
    · cases h
  | .rev a, sc, e, h => by
    unfold mE at h
    split at h
    · simp only [Bool.and_eq_true, decide_eq_true_eq] at h
      obtain ⟨rfl, h1⟩ := h
      exact b_rev (mE_ok a sc _ h1)
    · cases h
  | .call f as, sc, e, h => by
    unfold mE at h
    split at h
    · split at h
      · rename_i fi hf
        simp only [Bool.and_eq_true, decide_eq_true_eq] at h
        obtain ⟨⟨⟨rfl, h1⟩, h2⟩, h3⟩ := h
        obtain ⟨sa, pl⟩ := mA_ok as sc _ h3
        cases as with
        | nil =>
          unfold mA at h3
          split at h3
          · exact b_call0 hf h1 h2
          · cases h3
        | cons a r =>
          unfold mA at h3
          split at h3
          · exact b_call hf h1 h2 pl sa
          · cases h3
        | box i r =>
          unfold mA at h3
          split at h3
          · exact b_call hf h1 h2 pl sa
          · cases h3
        | scr i r =>
          unfold mA at h3
          split at h3
          · exact b_call hf h1 h2 pl sa
          · cases h3
      · cases h
    · cases h
  | .bi b a, sc, e, h => by
    unfold mE at h
    split at h
    · split at h
      · rename_i y f hb
        simp only [Bool.and_eq_true] at h
        obtain ⟨rfl, f1, f2⟩ := freeB_ok h.1
        exact b_bi hb f1 f2 (mE_ok a sc _ h.2)
      · cases h
    · cases h
  | .bi2 b a c, sc, e, h => by
    unfold mE at h
    split at h
    · simp only [Bool.and_eq_true] at h
      obtain ⟨⟨h1, h2⟩, h3⟩ := h
      split at h1
      · obtain ⟨rfl, f1, f2⟩ := freeB_ok h1
        exact b_max f1 f2 (mE_ok a sc _ h2) (mE_ok c sc _ h3)
      · obtain ⟨rfl, f1, f2⟩ := freeB_ok h1
        exact b_min f1 f2 (mE_ok a sc _ h2) (mE_ok c sc _ h3)
      · cases h1
    · cases h
  | .isi a ts tp, sc, e, h => by
    unfold mE at h
    split at h
    · split at h
      · simp only [Bool.and_eq_true] at h
        obtain ⟨⟨h1, h2⟩, h3⟩ := h
        obtain ⟨rfl, f1, f2⟩ := freeB_ok h1
        obtain ⟨rfl, f3, f4⟩ := freeB_ok h2
        exact b_isi f1 f2 f3 f4 (mE_ok a sc _ h3)
      · cases h
    · split at h
      · simp only [Bool.and_eq_true] at h
        obtain ⟨⟨⟨h1, h2⟩, h3⟩, h4⟩ := h
        obtain ⟨rfl, f1, f2⟩ := freeB_ok h1
        obtain ⟨rfl, f3, f4⟩ := freeB_ok h2
        obtain ⟨rfl, f5, f6⟩ := freeB_ok h3
        exact b_isiT f1 f2 f3 f4 f5 f6 (mE_ok a sc _ h4)
      · cases h
    · cases h
  | .kcall f ks pm es, sc, e, h => by
    unfold mE at h
    split at h
    · split at h
      · rename_i fi hf
        simp only [Bool.and_eq_true, decide_eq_true_eq] at h
        obtain ⟨⟨⟨⟨⟨rfl, h1⟩, h2⟩, h3⟩, h4⟩, h5⟩ := h
        exact b_kcall hf h3 h4 h1 h2 (mK_ok es sc _ h5)
      · cases h
    · cases h
  | .sset a, sc, e, h => by
    unfold mE at h
    split at h
    · simp only [Bool.and_eq_true] at h
      obtain ⟨⟨h1, h2⟩, h3⟩ := h
      obtain ⟨rfl, f1, f2⟩ := freeB_ok h1
      obtain ⟨rfl, f3, f4⟩ := freeB_ok h2
      exact b_sset f1 f2 f3 f4 (mE_ok a sc _ h3)
    · cases h
  | .lset a, sc, e, h => by
    unfold mE at h
    split at h
    · simp only [Bool.and_eq_true] at h
      obtain ⟨⟨h1, h2⟩, h3⟩ := h
      obtain ⟨rfl, f1, f2⟩ := freeB_ok h1
      obtain ⟨rfl, f3, f4⟩ := freeB_ok h2
      exact b_lset f1 f2 f3 f4 (mE_ok a sc _ h3)
    · cases h
  | .bcall f kz a b, sc, e, h => by
    unfold mE at h
    split at h
    · split at h
      · rename_i fi hi hf hb
        simp only [Bool.and_eq_true, decide_eq_true_eq] at h
        obtain ⟨⟨⟨⟨⟨⟨⟨⟨rfl, rfl⟩, h1⟩, h2⟩, rfl⟩, h3⟩, h4⟩, h5⟩, h6⟩ := h
        exact b_bcall hf h1 h2 hb h3 h4 (mE_ok a sc _ h5) (mE_ok b sc _ h6)
      · cases h
    · cases h
  | .bget i j, sc, e, h => by
    unfold mE at h
    split at h
    · simp only [Bool.and_eq_true, decide_eq_true_eq] at h
      obtain ⟨⟨⟨⟨rfl, h1⟩, h2⟩, h3⟩, h4⟩ := h
      exact b_bget h1 h2 h3 h4
    · cases h
  | .sslc i lo hi, sc, e, h => by
    unfold mE at h
    split at h
    · simp only [Bool.and_eq_true, decide_eq_true_eq] at h
      obtain ⟨⟨⟨⟨h1, h2⟩, h3⟩, h4⟩, h5⟩ := h
      exact b_sslc h1 h2 h3 (mP_ok lo sc _ h4) (mP_ok hi sc _ h5)
    · cases h
  | .comp elt own tg it c, sc, e, h => by
    unfold mE at h
    split at h
    · simp only [Bool.and_eq_true] at h
      obtain ⟨⟨⟨⟨⟨h1, h2⟩, h3⟩, h4⟩, h5⟩, h6⟩ := h
      have q := b_comp (own := ownP g own) (mI_ok it sc _ _ h4) h1 h2 (by rw [ownP_ix]; exact tgIn_ok h3) (mC_ok c _ _ h5) (mE_ok elt _ _ h6) (pos := by assumption)
      rw [ownP_ix] at q
      exact q
    · cases h
  | .comp2 elt own own1 tg it c tg1 it1 c1, sc, e, h => by
    unfold mE at h
    split at h
    · simp only [Bool.and_eq_true] at h
      obtain ⟨⟨⟨⟨⟨⟨⟨⟨⟨⟨h1, h2⟩, h3⟩, h4⟩, h5⟩, h6⟩, h7⟩, h8⟩, h9⟩, h10⟩, h11⟩ := h
      have hv : ∀ i ∈ own1, i ∈ own := fun i hi => by
        have := List.all_eq_true.mp h8 i hi
        simpa using this
      have q := b_comp2 (own := ownP g own) (own1 := own1) (mI_ok it sc _ _ h4) h1 h2 (by rw [ownP_ix]; exact tgIn_ok h3) (mC_ok c _ _ h5) (mI_ok it1 _ _ _ h9) h6 (tgIn_ok h7) (by rw [ownP_ix]; exact hv) (mC_ok c1 _ _ h10) (mE_ok elt _ _ h11) (pos := by assumption)
      rw [ownP_ix] at q
      exact q
    · cases h
  | .dcomp kx v own tg it c, sc, e, h => by
    unfold mE at h
    split at h
    · simp only [Bool.and_eq_true] at h
      obtain ⟨⟨⟨⟨⟨⟨h1, h2⟩, h3⟩, h4⟩, h5⟩, h6⟩, h7⟩ := h
      have q := b_dcomp (own := ownP g own) (mI_ok it sc _ _ h4) h1 h2 (by rw [ownP_ix]; exact tgIn_ok h3) (mC_ok c _ _ h5) (mE_ok kx _ _ h6) (mE_ok v _ _ h7) (pos := by assumption)
      rw [ownP_ix] at q
      exact q
    · cases h
theorem mL_ok : ∀ (c : Exs) (sc : Sk) (es : List Expr), mL g c sc es = true → SL g Φ Cn k sc es (fun ρ => evs Φ Cn c ρ)
  | .nil, sc, es, h => by
    unfold mL at h
    split at h
    · exact l_nil
    · cases h
  | .cons e r, sc, es, h => by
    unfold mL at h
    split at h
    · rw [Bool.and_eq_true] at h
      exact l_cons (mE_ok e sc _ h.1) (mL_ok r sc _ h.2)
    · cases h
  | .star e r, sc, es, h => by
    unfold mL at h
    split at h
    · rw [Bool.and_eq_true] at h
      exact l_star (mE_ok e sc _ h.1) (mL_ok r sc _ h.2)
    · cases h
theorem mK_ok : ∀ (c : Exs) (sc : Sk) (es : List Keyword), mK g c sc es = true → SK g Φ Cn k sc es (fun ρ => evs Φ Cn c ρ)
  | .nil, sc, es, h => by
    unfold mK at h
    split at h
    · exact k_nil
    · cases h
  | .cons e r, sc, es, h => by
    unfold mK at h
    split at h
    · rw [Bool.and_eq_true] at h
      exact k_cons (mE_ok e sc _ h.1) (mK_ok r sc _ h.2)
    · cases h
  | .star e r, sc, es, h => by
    unfold mK at h
    cases h
theorem mAnd_ok : ∀ (c : Exs) (sc : Sk) (es : List Expr), mO g c sc es = true → SO g Φ Cn k sc .And es (fun ρ => evAnd Φ Cn c ρ)
  | .nil, sc, es, h => by
    unfold mO at h
    cases h
  | .cons e r, sc, es, h => by
    unfold mO at h
    split at h
    · rw [Bool.and_eq_true] at h
      obtain ⟨h1, h2⟩ := h
      split at h2
      · exact so_one (mE_ok e sc _ h1)
      · cases h2
    · rw [Bool.and_eq_true] at h
      obtain ⟨h1, h2⟩ := h
      have ih := mAnd_ok r sc _ h2
      cases r with
      | nil =>
        unfold mO at h2
        cases h2
      | cons e2 r2 => exact so_and (mE_ok e sc _ h1) ih
      | star e2 r2 =>
        unfold mO at h2
        cases h2
    · cases h
  | .star e r, sc, es, h => by
    unfold mO at h
    cases h
theorem mOr_ok : ∀ (c : Exs) (sc : Sk) (es : List Expr), mO g c sc es = true → SO g Φ Cn k sc .Or es (fun ρ => evOr Φ Cn c ρ)
  | .nil, sc, es, h => by
    unfold mO at h
    cases h
  | .cons e r, sc, es, h => by
    unfold mO at h
    split at h
    · rw [Bool.and_eq_true] at h
      obtain ⟨h1, h2⟩ := h
      split at h2
      · exact so_one (mE_ok e sc _ h1)
      · cases h2
    · rw [Bool.and_eq_true] at h
      obtain ⟨h1, h2⟩ := h
      have ih := mOr_ok r sc _ h2
      cases r with
      | nil =>
        unfold mO at h2
        cases h2
      | cons e2 r2 => exact so_or (mE_ok e sc _ h1) ih
      | star e2 r2 =>
        unfold mO at h2
        cases h2
    · cases h
  | .star e r, sc, es, h => by
    unfold mO at h
    cases h
theorem mA_ok : ∀ (c : As) (sc : Sk) (es : List Expr), mA g c sc es = true → SA g Φ Cn k sc es (fun ρ => evas Φ Cn c ρ) (fun ρ => ownAs ρ c) ∧ plainL es = true
  | .nil, sc, es, h => by
    unfold mA at h
    split at h
    · exact ⟨a_nil, rfl⟩
    · cases h
  | .cons e r, sc, es, h => by
    unfold mA at h
    split at h
    · rw [Bool.and_eq_true] at h
      have b := mE_ok e sc _ h.1
      obtain ⟨q, pl⟩ := mA_ok r sc _ h.2
      refine ⟨a_cons b q, ?_⟩
      show (plainE _ && plainL _) = true
      rw [b.pl, pl]
      rfl
    · cases h
  | .box i r, sc, es, h => by
    unfold mA at h
    split at h
    · simp only [Bool.and_eq_true, decide_eq_true_eq] at h
      obtain ⟨q, pl⟩ := mA_ok r sc _ h.2
      refine ⟨a_box h.1.1.1 h.1.1.2 h.1.2 q, ?_⟩
      show (true && plainL _) = true
      rw [pl]
      rfl
    · cases h
  | .scr i r, sc, es, h => by
    unfold mA at h
    split at h
    · simp only [Bool.and_eq_true, decide_eq_true_eq] at h
      obtain ⟨q, pl⟩ := mA_ok r sc _ h.2
      refine ⟨a_scr h.1.1.1 h.1.1.2 h.1.2 q, ?_⟩
      show (true && plainL _) = true
      rw [pl]
      rfl
    · cases h
theorem mP_ok : ∀ (c : Eo) (sc : Sk) (o : Option Expr), mP g c sc o = true → SP_ g Φ Cn k sc o (fun ρ => evp Φ Cn c ρ)
  | .no, sc, o, h => by
    unfold mP at h
    split at h
    · exact .no
    · cases h
  | .so e, sc, o, h => by
    unfold mP at h
    split at h
    · exact .so (mE_ok e sc _ h)
    · cases h
theorem mC_ok : ∀ (c : Eo) (sc : Sk) (o : List Expr), mC g c sc o = true → SC g Φ Cn k sc o (fun ρ => evc Φ Cn c ρ)
  | .no, sc, o, h => by
    unfold mC at h
    split at h
    · exact .no
    · cases h
  | .so e, sc, o, h => by
    unfold mC at h
    split at h
    · exact .so (mE_ok e sc _ h)
    · cases h
theorem mI_ok : ∀ (c : It) (sc : Sk) (tg e : Expr), mI g c sc tg e = true → SI g Φ Cn k sc tg e (fun ρ => evIt Φ Cn c ρ) (fun ρ => itOwn ρ c)
  | .ex a, sc, tg, e, h => by
    unfold mI at h
    exact i_ex (mE_ok a sc _ h)
  | .rng1 a, sc, tg, e, h => by
    unfold mI at h
    split at h
    · rw [Bool.and_eq_true] at h
      obtain ⟨rfl, f1, f2⟩ := freeB_ok h.1
      exact i_rng1 f1 f2 (mE_ok a sc _ h.2)
    · cases h
  | .rng2 a b, sc, tg, e, h => by
    unfold mI at h
    split at h
    · simp only [Bool.and_eq_true] at h
      obtain ⟨rfl, f1, f2⟩ := freeB_ok h.1.1
      exact i_rng2 f1 f2 (mE_ok a sc _ h.1.2) (mE_ok b sc _ h.2)
    · cases h
  | .enum a, sc, tg, e, h => by
    unfold mI at h
    split at h
    · simp only [Bool.and_eq_true] at h
      obtain ⟨rfl, f1, f2⟩ := freeB_ok h.1.2
      have h1 := h.1.1
      split at h1
      · exact i_enum f1 f2 (mE_ok a sc _ h.2)
      · cases h1
    · cases h
  | .zip a b, sc, tg, e, h => by
    unfold mI at h
    split at h
    · simp only [Bool.and_eq_true] at h
      obtain ⟨rfl, f1, f2⟩ := freeB_ok h.1.1.2
      have h1 := h.1.1.1
      split at h1
      · exact i_zip f1 f2 (mE_ok a sc _ h.1.2) (mE_ok b sc _ h.2)
      · cases h1
    · cases h
end
end
end Pd
end
section
/-! Pd: which code stands for which text: statements. -/
namespace Pd
open PySem PySem.Spec PyProof.Rows L2

/-! ### the two store rules of the language, reckoned -/
def fnK (sc : Scope) : Bool := decide (sc.kind = .function)
/-- does the value swap its store with the name's -/
def swB (sc : Scope) (x : Str) (p : Pos) (e : Expr) : Option Bool := match e with
  | .ListComp _ _ s lp => some (sc.names.lookup x == some .local && p.line == lp.line && !(s.names.any fun (n, k) => n == x && (k == .local || k == .cell)))
  | .SetComp _ _ _ _ => none
  | .DictComp _ _ _ s lp => some (sc.names.lookup x == some .local && p.line == lp.line && !(s.names.any fun (n, k) => n == x && (k == .local || k == .cell)))
  | _ => some false
theorem swB_ok {sc : Scope} {x : Str} {p : Pos} {e : Expr} {b : Bool} {l : Nat} (h : swB sc x p e = some b) (hk : sc.kind = .function) : ∀ env : PySem.Env, env.scope = sc → swapsWith e (some (.Name x p)) l env = pure b := by
  intro env he
  have hb : env.blockKind = .function := by
    unfold Env.blockKind
    rw [he, hk]
    rfl
  have hy : env.kindOf x = sc.names.lookup x := by
    unfold Env.kindOf
    rw [he]
  have key : ∀ (s : Scope) (lp : Pos), (env.blockKind == .function && env.kindOf x == some .local && p.line == lp.line && !(s.names.any fun (n, k) => n == x && (k == .local || k == .cell))) =
      (sc.names.lookup x == some .local && p.line == lp.line && !(s.names.any fun (n, k) => n == x && (k == .local || k == .cell))) := fun s lp => by
    rw [hb, hy]
    rfl
  cases e with
  | ListComp e gs s lp =>
    have h : (sc.names.lookup x == some .local && p.line == lp.line && !(s.names.any fun (n, k) => n == x && (k == .local || k == .cell))) = b := Option.some.inj h
    show (pure (env.blockKind == .function && env.kindOf x == some .local && p.line == lp.line && !(s.names.any fun (n, k) => n == x && (k == .local || k == .cell))) : Sem Bool) = pure b
    rw [key s lp, h]
  | DictComp k v gs s lp =>
    have h : (sc.names.lookup x == some .local && p.line == lp.line && !(s.names.any fun (n, k) => n == x && (k == .local || k == .cell))) = b := Option.some.inj h
    show (pure (env.blockKind == .function && env.kindOf x == some .local && p.line == lp.line && !(s.names.any fun (n, k) => n == x && (k == .local || k == .cell))) : Sem Bool) = pure b
    rw [key s lp, h]
  | SetComp e gs s lp => cases h
  | _ =>
    cases h
    rfl
def isStar : Expr → Bool
  | .Starred _ _ => true
  | _ => false
def swNames (sc : Scope) (ts : List Expr) : List Str := ts.filterMap fun
  | .Name id pos => if sc.names.lookup id == some .local && pos.line == (ts.head?.map (·.pos.line)).getD 0 then some id else none
  | _ => none
/-- a, b = x, y: which names are stored from the right -/
def swN (sc : Scope) (ts vs : List Expr) : Option (Option (List Str)) :=
  if !(ts.length == 2 || ts.length == 3) || vs.length != ts.length then some none else
  if vs.any (fun | .Starred .. => true | _ => false) then some none else
  if (swNames sc ts).length != ts.length || (swNames sc ts).eraseDups.length != (swNames sc ts).length then some none else
  if vs.all (foldedForSure 8) then some none else
  if vs.all (constantsAlone 8) then none else some (some (swNames sc ts))
theorem swN_ok {sc : Scope} {ts vs : List Expr} {o : Option (List Str)} {kt k2 : Nat} {pt pt2 : Pos} (h : swN sc ts vs = some o) (hk : sc.kind = .function) : ∀ env : PySem.Env, env.scope = sc → swappedStores [.Tuple ts kt pt] (.Tuple vs k2 pt2) env = pure o := by
  intro env he
  have hb : env.blockKind = .function := by
    unfold Env.blockKind
    rw [he, hk]
    rfl
  unfold swappedStores
  dsimp only
  rw [hb]
  unfold swN at h
  subst he
  have nn : (ScopeKind.function != ScopeKind.function) = false := rfl
  rw [nn, Bool.or_false]
  by_cases c1 : (!(ts.length == 2 || ts.length == 3) || vs.length != ts.length) = true
  · rw [if_pos c1] at h
    cases h
    exact if_pos c1
  · rw [if_neg c1] at h
    refine (if_neg c1).trans ?_
    by_cases c2 : (vs.any fun | .Starred .. => true | _ => false) = true
    · rw [if_pos c2] at h
      cases h
      exact if_pos c2
    · rw [if_neg c2] at h
      refine (if_neg c2).trans ?_
      by_cases c3 : ((swNames env.scope ts).length != ts.length || (swNames env.scope ts).eraseDups.length != (swNames env.scope ts).length) = true
      · rw [if_pos c3] at h
        cases h
        exact if_pos c3
      · rw [if_neg c3] at h
        refine (if_neg c3).trans ?_
        by_cases c4 : vs.all (foldedForSure 8) = true
        · rw [if_pos c4] at h
          cases h
          exact if_pos c4
        · rw [if_neg c4] at h
          refine (if_neg c4).trans ?_
          by_cases c5 : vs.all (constantsAlone 8) = true
          · rw [if_pos c5] at h
            cases h
          · rw [if_neg c5] at h
            cases h
            exact if_neg c5
def notTup : Expr → Bool
  | .Tuple _ _ _ => false
  | _ => true
theorem notTup_ok {e : Expr} (h : notTup e = true) {ts : List Expr} {kt : Nat} {pt : Pos} : ∀ env : PySem.Env, swappedStores [.Tuple ts kt pt] e env = pure none := by
  intro env
  cases e <;> first | rfl | cases h

/-! ### statements -/
def isLst : Ex → Bool
  | .lst _ => true
  | .bin .Add _ _ => true
  | .bi .list _ => true
  | .disj (.cons (.bi .list _) (.cons (.lst _) .nil)) => true
  | _ => false
section
variable (g : G)
def mFs (sc : Sk) : Exs → List Bool → List Expr → Bool
  | .nil, [], [] => true
  | .cons e r, false :: fs, e' :: r' => mE g e sc e' && mFs sc r fs r'
  | .cons e r, true :: fs, e' :: r' => isLst e && mE g e sc e' && mFs sc r fs r'
  | _, _, _ => false
mutual
def mS : Sta → Sk → Stmt → Bool
  | .asg i e => fun sc st => match st with
    | .Assign [.Name x p] e' _ => nmOk g sc i x && fnK sc.run && (match swB sc.run x p e' with
      | some false => mE g e sc e'
      | some true => decide (sc.run.names.lookup x = some .local) && (match e with
        | .comp _ _ _ _ _ => mE g e sc e'
        | .comp2 _ _ _ _ _ _ _ _ _ => mE g e sc e'
        | _ => false)
      | none => false)
    | _ => false
  | .own i e => fun sc st => match st with
    | .Assign [.Name x _] e' _ => nmOk g sc i x && isLst e && mE g e sc e' && notComp e'
    | _ => false
  | .asgT tg e => fun sc st => match st with
    | .Assign [.Tuple ts kt pt] e' _ => tgOk g sc tg (.Tuple ts kt pt) && notTup e' && mE g e sc e'
    | _ => false
  | .par is es => fun sc st => match st with
    | .Assign [.Tuple ts _ _] (.Tuple es' _ _) _ => fnK sc.run && mFs g sc es (is.map (·.2)) es' && tgNames g sc (is.map (·.1)) ts && decide (is.length ≤ 1000) && decide ((is.map (·.1)).Nodup) && (match swN sc.run ts es' with
      | some none => true
      | some (some ns) => (match is, ts with
        | [(i, _), (j, _)], [.Name x _, .Name y _] => decide (ns = [x, y]) && nmOk g sc i x && nmOk g sc j y && decide (sc.run.names.lookup x = some .local) && decide (sc.run.names.lookup y = some .local)
        | [(i, _), (j, _), (l, _)], [.Name x _, .Name y _, .Name z _] => decide (ns = [x, y, z]) && nmOk g sc i x && nmOk g sc j y && nmOk g sc l z && decide (sc.run.names.lookup x = some .local) && decide (sc.run.names.lookup y = some .local) && decide (sc.run.names.lookup z = some .local)
        | _, _ => false) && (match es' with
        | [_, _] => decide (is.length = 2)
        | [_, _, _] => decide (is.length = 3)
        | _ => false)
      | none => false)
    | _ => false
  | .app i e => fun sc st => match st with
    | .Expr (.Call (.Attribute (.Name x _) m apos) [e'] [] cpos) _ => decide (m = "append") && decide (g.N[i]? = some x) && visB sc.run x && okN x && (apos.endLine == cpos.line) && mE g e sc e'
    | _ => false
  | .ext i e => fun sc st => match st with
    | .Expr (.Call (.Attribute (.Name x _) m apos) [e'] [] cpos) _ => decide (m = "extend") && decide (g.N[i]? = some x) && visB sc.run x && okN x && (apos.endLine == cpos.line) && mE g e sc e'
    | _ => false
  | .bset i j e => fun sc st => match st with
    | .Assign [.Subscript (.Name x _) (.Constant (.int n) _ _) _] e' _ => decide (n = (j : Int)) && decide (j < 3) && decide (g.N[i]? = some x) && visB sc.run x && okN x && mE g e sc e'
    | _ => false
  | .seti i k e => fun sc st => match st with
    | .Assign [.Subscript (.Name x _) k' _] e' _ => decide (g.N[i]? = some x) && visB sc.run x && okN x && mE g k sc k' && mE g e sc e'
    | _ => false
  | .ex e => fun sc st => match st with
    | .Expr e' _ => notComp e' && mE g e sc e'
    | _ => false
  | .ite t a b => fun sc st => match st with
    | .If t' a' b' _ => mE g t sc t' && mB a sc a' && mB b sc b'
    | _ => false
  | .fr tg it b => fun sc st => match st with
    | .For tgE it' b' [] _ => tgOk g sc tg tgE && mI g it sc tgE it' && mB b sc b'
    | _ => false
  | .wh t b => fun sc st => match st with
    | .While t' b' [] _ => mE g t sc t' && mB b sc b'
    | _ => false
  | .ret e => fun sc st => match st with
    | .Return (some e') _ => mE g e sc e'
    | .Return none _ => (match e with
      | .lit .none => true
      | _ => false)
    | _ => false
  | .rz c a => fun sc st => match st with
    | .Raise (some (.Call (.Name x _) es [] _)) none _ => (match g.errs[c]? with
      | some ei => decide (x = ei.nm) && gloB sc.run ei.nm && okN ei.nm && (match a, es with
        | .no, [] => decide (ei.fld = none)
        | .so e, [e'] => ei.fld.isSome && mE g e sc e'
        | _, _ => false)
      | none => false)
    | _ => false
  | .tr b hs => fun sc st => match st with
    | .Try b' (h :: t) [] [] _ => sc.top && mHds g sc hs (h :: t) && mB b sc b'
    | _ => false
  | .brk => fun _ st => match st with
    | .Break _ => true
    | _ => false
  | .cont => fun _ st => match st with
    | .Continue _ => true
    | _ => false
  | .pas => fun _ st => match st with
    | .Pass _ => true
    | .Expr (.Constant (.str _) _ _) _ => true
    | _ => false
  | .frz _ s => fun sc st => mS s sc st
  | .apop i j e => fun sc st => match st with
    | .Expr (.Call (.Attribute (.Name x _) m apos) [.Call (.Attribute (.Name y _) m2 apos2) [e'] [] cpos2] [] cpos) _ => decide (m = "append") && decide (g.N[i]? = some x) && visB sc.run x && okN x && (apos.endLine == cpos.line) && decide (m2 = "pop") && decide (g.N[j]? = some y) && visB sc.run y && okN y && (apos2.endLine == cpos2.line) && mE g e sc e'
    | _ => false
def mB : Stas → Sk → List Stmt → Bool
  | .nil => fun _ sts => match sts with
    | [] => true
    | _ => false
  | .cons s r => fun sc sts => match sts with
    | st :: r' => mS s sc st && mB r sc r'
    | _ => false
end
end
section
variable {g : G} {Φ : Nat → Fn} {Cn : List D} {k : Nat}
theorem isLst_ok {c : Ex} {sc : Sk} {e : Expr} (hl : isLst c = true) (h : mE g c sc e = true) : SF g Φ Cn k sc e (fun ρ => ev Φ Cn c ρ) := by
  unfold isLst at hl
  split at hl
  · unfold mE at h
    split at h
    · exact f_lst (mL_ok _ sc _ h)
    · cases h
  · unfold mE at h
    split at h
    · simp only [Bool.and_eq_true, decide_eq_true_eq] at h
      obtain ⟨⟨rfl, h1⟩, h2⟩ := h
      exact f_add (mE_ok _ sc _ h1) (mE_ok _ sc _ h2)
    · cases h
  · unfold mE at h
    split at h
    · split at h
      · rename_i hb
        simp only [Bool.and_eq_true] at h
        cases hb
        obtain ⟨rfl, f1, f2⟩ := freeB_ok h.1
        exact f_list f1 f2 (mE_ok _ sc _ h.2)
      · cases h
    · cases h
  · rename_i a0 es0
    unfold mE at h
    split at h
    · unfold mO at h
      split at h
      · simp at h
      · rename_i e1 e2 r1 _
        rw [Bool.and_eq_true] at h
        obtain ⟨g1, g2⟩ := h
        unfold mO at g2
        split at g2
        · rename_i heq
          cases heq
          rw [Bool.and_eq_true] at g2
          obtain ⟨g2, _⟩ := g2
          have F1 : SF g Φ Cn k sc e2 (fun ρ => ev Φ Cn (.bi .list a0) ρ) := by
            unfold mE at g1
            split at g1
            · split at g1
              · rename_i hb
                simp only [Bool.and_eq_true] at g1
                cases hb
                obtain ⟨rfl, f1, f2⟩ := freeB_ok g1.1
                exact f_list f1 f2 (mE_ok _ sc _ g1.2)
              · cases g1
            · cases g1
          have F2 : SF g Φ Cn k sc r1 (fun ρ => ev Φ Cn (.lst es0) ρ) := by
            unfold mE at g2
            split at g2
            · exact f_lst (mL_ok _ sc _ g2)
            · cases g2
          refine f_or (mE_ok (Φ := Φ) (Cn := Cn) (k := k) _ sc _ g1).pl (fun ρ s d s' h => ?_) F1 F2
          have h : Pd.M.bind (ev Φ Cn a0 ρ) (fun x => .ofOpt (biD .list x)) s = .ok d s' := h
          unfold Pd.M.bind at h
          split at h
          · cases h
          · rename_i x s2 _
            cases x <;> cases h <;> exact ⟨_, rfl⟩
          · cases h
        · simp [mO] at g2
        · cases g2
      · cases h
    · cases h
  · cases hl
theorem mFs_ok {sc : Sk} : ∀ (c : Exs) (fs : List Bool) (es : List Expr), mFs g sc c fs es = true → SP g Φ Cn k sc es fs (fun ρ => evPar Φ Cn c fs ρ)
  | .nil, [], [], _ => sp_nil
  | .cons e r, false :: fs, e' :: r', h => by
    have h : (mE g e sc e' && mFs g sc r fs r') = true := h
    rw [Bool.and_eq_true] at h
    exact sp_dat (mE_ok e sc _ h.1) (mFs_ok r fs r' h.2)
  | .cons e r, true :: fs, e' :: r', h => by
    have h : (isLst e && mE g e sc e' && mFs g sc r fs r') = true := h
    simp only [Bool.and_eq_true] at h
    exact sp_own (mE_ok (Φ := Φ) (Cn := Cn) (k := k) e sc _ h.1.2).pl (isLst_ok h.1.1 h.1.2) (mFs_ok r fs r' h.2)
  | .nil, [], _ :: _, h => by cases h
  | .nil, _ :: _, _, h => by cases h
  | .cons _ _, [], _, h => by cases h
  | .cons _ _, false :: _, [], h => by cases h
  | .cons _ _, true :: _, [], h => by cases h
  | .star _ _, _, _, h => by cases h
theorem fnK_ok {sc : Scope} (h : fnK sc = true) : sc.kind = .function := by
  unfold fnK at h
  simpa using h
mutual
theorem mS_ok : ∀ (c : Sta) (sc : Sk) (st : Stmt), mS g c sc st = true → SS g Φ Cn k sc st (fun ρ => exS Φ Cn c ρ)
  | .asg i e, sc, st, h => by
    unfold mS at h
    split at h
    · rename_i x p e' pos
      rw [Bool.and_eq_true, Bool.and_eq_true] at h
      obtain ⟨⟨h1, h2⟩, h3⟩ := h
      have fk := fnK_ok h2
      split at h3
      · rename_i hs
        exact s_asg h1 (mE_ok e sc _ h3) (swB_ok hs fk)
      · rename_i hs
        rw [Bool.and_eq_true, decide_eq_true_eq] at h3
        obtain ⟨hl, h4⟩ := h3
        split at h4
        · rename_i elt own tg it c
          unfold mE at h4
          split at h4
          · simp only [Bool.and_eq_true] at h4
            obtain ⟨⟨⟨⟨⟨g1, g2⟩, g3⟩, g4⟩, g5⟩, g6⟩ := h4
            have q := s_asgLc (pos := pos) (own := ownP g own) h1 hl (swB_ok hs fk) (mI_ok (Φ := Φ) (Cn := Cn) (k := k) it sc _ _ g4) g1 g2 (by rw [ownP_ix]; exact tgIn_ok g3) (mC_ok c _ _ g5) (mE_ok elt _ _ g6)
            rw [ownP_ix] at q
            exact q
          · cases h4
        · rename_i elt own own1 tg it c tg1 it1 c1
          unfold mE at h4
          split at h4
          · simp only [Bool.and_eq_true] at h4
            obtain ⟨⟨⟨⟨⟨⟨⟨⟨⟨⟨g1, g2⟩, g3⟩, g4⟩, g5⟩, g6⟩, g7⟩, g8⟩, g9⟩, g10⟩, g11⟩ := h4
            have hv : ∀ i ∈ own1, i ∈ own := fun i hi => by
              have := List.all_eq_true.mp g8 i hi
              simpa using this
            have q := s_asgLc2 (pos := pos) (own := ownP g own) (own1 := own1) h1 hl (swB_ok hs fk) (mI_ok (Φ := Φ) (Cn := Cn) (k := k) it sc _ _ g4) g1 g2 (by rw [ownP_ix]; exact tgIn_ok g3) (mC_ok c _ _ g5) (mI_ok it1 _ _ _ g9) g6 (tgIn_ok g7) (by rw [ownP_ix]; exact hv) (mC_ok c1 _ _ g10) (mE_ok elt _ _ g11)
            rw [ownP_ix] at q
            exact q
          · cases h4
        · cases h4
      · cases h3
    · cases h
  | .own i e, sc, st, h => by
    unfold mS at h
    split at h
    · simp only [Bool.and_eq_true] at h
      exact s_ownF h.1.1.1 h.2 (isLst_ok h.1.1.2 h.1.2)
    · cases h
  | .asgT tg e, sc, st, h => by
    unfold mS at h
    split at h
    · simp only [Bool.and_eq_true] at h
      exact s_asgT h.1.1 (mE_ok e sc _ h.2) fun env _ => notTup_ok h.1.2 env
    · cases h
  | .par is es, sc, st, h => by
    unfold mS at h
    split at h
    · rename_i ts kt pt es' k2 pt2 pos
      simp only [Bool.and_eq_true, decide_eq_true_eq] at h
      obtain ⟨⟨⟨⟨⟨h1, h2⟩, h3⟩, h4⟩, h5⟩, h6⟩ := h
      have fk := fnK_ok h1
      have he := mFs_ok (Φ := Φ) (Cn := Cn) (k := k) es _ es' h2
      split at h6
      · rename_i hs
        exact s_parT h3 he h4 (swN_ok hs fk)
      · rename_i ns hs
        rw [Bool.and_eq_true] at h6
        obtain ⟨h6, h7⟩ := h6
        split at h6
        · rename_i i f1 j f2 x px y py
          simp only [Bool.and_eq_true, decide_eq_true_eq] at h6
          obtain ⟨⟨⟨⟨rfl, n1⟩, n2⟩, l1⟩, l2⟩ := h6
          have hij : i ≠ j := by
            simp at h5
            exact h5
          split at h7
          · exact s_par2 n1 n2 hij l1 l2 he (swN_ok hs fk)
          · simp at h7
          · cases h7
        · rename_i i f1 j f2 l f3 x px y py z pz
          simp only [Bool.and_eq_true, decide_eq_true_eq] at h6
          obtain ⟨⟨⟨⟨⟨⟨rfl, n1⟩, n2⟩, n3⟩, l1⟩, l2⟩, l3⟩ := h6
          simp at h5
          split at h7
          · simp at h7
          · exact s_par3 n1 n2 n3 h5.1.1 h5.1.2 h5.2 l1 l2 l3 he (swN_ok hs fk)
          · cases h7
        · cases h6
      · cases h6
    · cases h
  | .app i e, sc, st, h => by
    unfold mS at h
    split at h
    · simp only [Bool.and_eq_true, decide_eq_true_eq] at h
      obtain ⟨⟨⟨⟨⟨rfl, h1⟩, h2⟩, h3⟩, h4⟩, h5⟩ := h
      exact s_app h1 h2 h3 h4 (mE_ok e sc _ h5)
    · cases h
  | .ext i e, sc, st, h => by
    unfold mS at h
    split at h
    · simp only [Bool.and_eq_true, decide_eq_true_eq] at h
      obtain ⟨⟨⟨⟨⟨rfl, h1⟩, h2⟩, h3⟩, h4⟩, h5⟩ := h
      exact s_ext h1 h2 h3 h4 (mE_ok e sc _ h5)
    · cases h
  | .bset i j e, sc, st, h => by
    unfold mS at h
    split at h
    · simp only [Bool.and_eq_true, decide_eq_true_eq] at h
      obtain ⟨⟨⟨⟨⟨rfl, h1⟩, h2⟩, h3⟩, h4⟩, h5⟩ := h
      exact s_bset h1 h2 h3 h4 (mE_ok e sc _ h5)
    · cases h
  | .seti i ix e, sc, st, h => by
    unfold mS at h
    split at h
    · simp only [Bool.and_eq_true, decide_eq_true_eq] at h
      obtain ⟨⟨⟨⟨h1, h2⟩, h3⟩, h4⟩, h5⟩ := h
      exact s_seti h1 h2 h3 (mE_ok ix sc _ h4) (mE_ok e sc _ h5)
    · cases h
  | .ex e, sc, st, h => by
    unfold mS at h
    split at h
    · rw [Bool.and_eq_true] at h
      exact s_expr (mE_ok e sc _ h.2) h.1
    · cases h
  | .ite t a b, sc, st, h => by
    unfold mS at h
    split at h
    · simp only [Bool.and_eq_true] at h
      exact s_if (mE_ok t sc _ h.1.1) (mB_ok a sc _ h.1.2) (mB_ok b sc _ h.2)
    · cases h
  | .fr tg it b, sc, st, h => by
    unfold mS at h
    split at h
    · simp only [Bool.and_eq_true] at h
      exact s_frz (o := srcSlot it) (s_for (mI_ok it sc _ _ h.1.2) h.1.1 (mB_ok b sc _ h.2))
    · cases h
  | .wh t b, sc, st, h => by
    unfold mS at h
    split at h
    · simp only [Bool.and_eq_true] at h
      exact s_while (mE_ok t sc _ h.1) (mB_ok b sc _ h.2)
    · cases h
  | .ret e, sc, st, h => by
    unfold mS at h
    split at h
    · cases e with
      | slot i =>
        unfold mE at h
        split at h
        · simp only [Bool.and_eq_true, decide_eq_true_eq] at h
          exact s_retSlot h.1.1 h.1.2 h.2
        · cases h
      | _ => exact s_ret (mE_ok _ sc _ h)
    · split at h
      · exact s_retN
      · cases h
    · cases h
  | .rz c a, sc, st, h => by
    unfold mS at h
    split at h
    · split at h
      · rename_i ei he
        simp only [Bool.and_eq_true, decide_eq_true_eq] at h
        obtain ⟨⟨⟨rfl, h1⟩, h2⟩, h3⟩ := h
        split at h3
        · rw [decide_eq_true_eq] at h3
          exact s_rz0 he h3 h1 h2
        · rw [Bool.and_eq_true] at h3
          obtain ⟨f, hf⟩ := Option.isSome_iff_exists.mp h3.1
          exact s_rz1 he hf h1 h2 (mE_ok _ sc _ h3.2)
        · cases h3
      · cases h
    · cases h
  | .tr b hs, sc, st, h => by
    unfold mS at h
    split at h
    · simp only [Bool.and_eq_true] at h
      exact s_try h.1.1 (mB_ok b sc _ h.2) h.1.2
    · cases h
  | .brk, sc, st, h => by
    unfold mS at h
    split at h
    · exact s_brk
    · cases h
  | .cont, sc, st, h => by
    unfold mS at h
    split at h
    · exact s_cont
    · cases h
  | .pas, sc, st, h => by
    unfold mS at h
    split at h
    · exact s_pass
    · exact s_doc
    · cases h
  | .apop i j e, sc, st, h => by
    unfold mS at h
    split at h
    · simp only [Bool.and_eq_true, decide_eq_true_eq] at h
      obtain ⟨⟨⟨⟨⟨⟨⟨⟨⟨⟨rfl, h1⟩, h2⟩, h3⟩, h4⟩, rfl⟩, g1⟩, g2⟩, g3⟩, g4⟩, h5⟩ := h
      exact s_apop h1 h2 h3 h4 g1 g2 g3 g4 (mE_ok e sc _ h5)
    · cases h
  | .frz i s, sc, st, h => by
    unfold mS at h
    exact s_frz (o := some i) (mS_ok s sc st h)
theorem mB_ok : ∀ (c : Stas) (sc : Sk) (sts : List Stmt), mB g c sc sts = true → SSs g Φ Cn k sc sts (fun ρ => exB Φ Cn c ρ)
  | .nil, sc, sts, h => by
    unfold mB at h
    split at h
    · exact ss_nil
    · cases h
  | .cons s r, sc, sts, h => by
    unfold mB at h
    split at h
    · rw [Bool.and_eq_true] at h
      exact ss_cons (mS_ok s sc _ h.1) (mB_ok r sc _ h.2)
    · cases h
end
end
end Pd
end
section
/-! Pd: a def keeps its promise. -/
namespace Pd
open PySem PySem.Spec PyProof.Rows L2
theorem stoB_loc {sc : Scope} {x : Str} (h : stoB sc x = true) : Loc sc x := by
  unfold stoB at h
  split at h <;> first | exact .inl (by assumption) | exact .inr (by assumption) | cases h
theorem owns_rep : ∀ n : Nat, owns (List.replicate n none) = []
  | 0 => rfl
  | n + 1 => owns_rep n
section
variable {K : PySem.W.Frag} {β : Option Addr} {M : List Addr} {H : Hp}
theorem startE_eq (n : Nat) (as : List Val) : startE n as = as.map slotOf ++ List.replicate (n - as.length) .un := rfl
theorem rvA_at {vs : List V} {as : List Val} (r : RvA K β (hid M H) vs as) : ∀ (i : Nat) (sl : Slot), (as.map slotOf)[i]? = some sl → SlotR K β M H (some <$> vs[i]?) (some none) sl := by
  induction r with
  | nil => exact fun i sl e => by simp at e
  | dat h r ih =>
    intro i sl e
    cases i with
    | zero =>
      simp [slotOf] at e
      subst e
      exact ⟨rfl, _, rfl, h⟩
    | succ i =>
      simp at e ⊢
      exact ih i sl (by simpa using e)
  | box h r ih =>
    intro i sl e
    cases i with
    | zero =>
      simp [slotOf] at e
      subst e
      exact ⟨rfl, _, h, rfl⟩
    | succ i =>
      simp at e ⊢
      exact ih i sl (by simpa using e)
  | scr h r ih =>
    intro i sl e
    cases i with
    | zero =>
      simp [slotOf] at e
      subst e
      exact ⟨rfl, _, rfl, h⟩
    | succ i =>
      simp at e ⊢
      exact ih i sl (by simpa using e)
theorem start_rel {N : List Str} {vs : List V} {as : List Val} (r : RvA K β (hid M H) vs as) : SRel K β M (List.replicate (startE N.length as).length none) H (start N vs) (startE N.length as) := by
  have hl := r.length
  refine ⟨?_, fun i sl e => ?_, by simp, by rw [owns_rep]; exact .nil, fun p hp => by rw [owns_rep] at hp; cases hp⟩
  · rw [startE_eq]
    unfold L2.start
    simp [hl]
  · have lt : i < (startE N.length as).length := (List.getElem?_eq_some_iff.mp e).1
    have em : (List.replicate (startE N.length as).length (none : Option Addr))[i]? = some none := by
      rw [List.getElem?_replicate]
      rw [if_pos lt]
    rw [em, owns_rep, List.append_nil]
    rw [startE_eq] at e
    unfold L2.start
    by_cases h1 : i < as.length
    · rw [List.getElem?_append_left (by simpa using h1)] at e
      rw [List.getElem?_append_left (by simpa [hl] using h1)]
      have q := rvA_at r i sl e
      rw [List.getElem?_map]
      exact q
    · rw [List.getElem?_append_right (by simpa using Nat.le_of_not_lt h1)] at e
      have e2 : sl = .un := by
        rw [List.getElem?_replicate] at e
        split at e
        · exact (Option.some.inj e).symm
        · cases e
      subst e2
      exact rfl
end
/-- THE RULE for a def: its code, looked at once -/
theorem fn_ok {P : Program} {w : World} {K : PySem.W.Frag} {mg : Str → Option Value} {base : Heap} {x qual : Str} {params : Arguments} {body : List Stmt} {scope : Scope} {dvs : List V} {kws : List (Str × V)} {f : Addr} {fd : FuncData}
    {g : G} {ps : List Str} {k : Nat} {Φ : Nat → Fn} {Cn : List D} {c : Stas} (F : FunD K x qual params body scope dvs kws f fd) (S : FnScope g.N ps scope)
    (gf : ∀ X : Cx, X.prog = P → X.w = w → X.K = K → X.mg = mg → X.base = base → GF g Φ Cn k X) (hc : mB g c ⟨scope, scope, true⟩ body = true) :
    FnOk P w K mg base (L2.CX P w) (k + 1) f fd ps (spF K mg g.errs (runFn Φ Cn g.N.length ps.length c) ps.length) := by
  refine F.ok S (fun vs H Q E h => h.1) (fun cdv A outer s H vs Q E hr h => ?_)
  obtain ⟨hl, β, M, bs, as, bx, lv, bin, rv, h⟩ := h
  let X := cxOf (L2.CX P w) P w K mg base g.N qual scope f cdv A outer s H E
  have tk : Takes X (fun cls d _ H' => E cls d H') := takes_of (X := X) rfl rfl rfl (E₁ := fun e' s'' => L2.CX P w outer H s E e' s'') rfl
  have po : PassesOwn (model P w) X.A X.env X.xe := passes_of (X := X) (K := fun e s'' => L2.CX P w outer H s E e s'') (E₁ := fun e' s'' => L2.CX P w outer H s E e' s'') rfl
  have good : Good g Φ Cn k ⟨scope, scope, true⟩ X (fun cls d _ H' => E cls d H') :=
    ⟨gf X rfl rfl rfl rfl rfl, rfl, S.nd, rfl, rfl, hr, tk, po, (fun _ => ⟨rfl, rfl⟩), fun y hy => ⟨stoB_loc hy, .inl rfl⟩⟩
  have A0 : At g Φ Cn k ⟨scope, scope, true⟩ X (fun cls d _ H' => E cls d H') β M (List.replicate (startE g.N.length as).length none) H (start g.N vs) (startE g.N.length as) bs := ⟨good, start_rel rv, bx, lv, bin⟩
  have la : as.length = ps.length := by rw [← rv.length]; exact hl
  have q := mB_ok (Φ := Φ) (Cn := Cn) (k := k) c ⟨scope, scope, true⟩ body hc X _ β M _ H _ _ bs { nx := fun _ H' => Q .non H', rt := Q } A0 ?_
  · exact ⟨_, wSs_ps body, q⟩
  · unfold runFn at h
    rw [if_pos la] at h
    have ex : ∀ {ms' : List (Option Addr)} {H' : Hp} {σ' : L2.St} {ρ' : Env} {s' : Bx}, Step β M (List.replicate (startE g.N.length as).length none) H ms' H' → At g Φ Cn k ⟨scope, scope, true⟩ X (fun cls d _ H' => E cls d H') β M ms' H' σ' ρ' s' → Ext β M H bs H' s' := fun {ms' H' σ' ρ' s'} st A => by
      refine ⟨⟨fun a u z => ?_, st.keep⟩, A.box⟩
      have z2 := st.same a u (by rw [owns_rep, List.append_nil]; exact z)
      exact hid_le (fun a ha => List.mem_append_left _ ha) a u z2
    show PostS g Φ Cn k ⟨scope, scope, true⟩ X (fun cls d _ H' => E cls d H') β M _ H (exB Φ Cn c (startE g.N.length as) bs) _
    revert h
    cases eo : exB Φ Cn c (startE g.N.length as) bs with
    | bad => exact id
    | exc cc p ρ' s' =>
      intro h ms' H' σ' cls dd st A er
      refine h cls dd H' (ex st A) ?_
      obtain ⟨ei, q1, q2, q3⟩ := er
      refine ⟨ei, q1, q2, ?_⟩
      revert q3
      cases ei.fld with
      | none => cases p <;> exact id
      | some fl =>
        cases p with
        | none => exact id
        | some d => exact fun ⟨a, v, g1, g2, g3⟩ => ⟨a, v, g1, g2, g3.same (hid_le fun a ha => List.mem_append_left _ ha)⟩
    | go fl ρ' s' =>
      cases fl with
      | nx => exact fun h ms' H' σ' st A => h .non H' (ex st A) .non
      | ret d => exact fun h ms' H' σ' v st A r => h v H' (ex st A) r
      | brk => exact fun h => h.elim
      | ct => exact fun h => h.elim
end Pd
end
section
/-! Pd: a module's defs, one after another. -/
namespace Pd
open PySem PySem.Spec PyProof.Rows L2
def badF : Fn := fun _ => .bad
def upF (Fs : Nat → Fn) (j : Nat) (F : Fn) : Nat → Fn := fun i => if i = j then F else Fs i
/-- a def that may call itself, so deep at the most -/
def runRec (Fs : Nat → Fn) (j : Nat) (C : List D) (n p : Nat) (b : Stas) : Nat → Fn
  | 0 => badF
  | m + 1 => runFn (upF Fs j (runRec Fs j C n p b m)) C n p b
section
variable {P : Program} {w : World} {K : PySem.W.Frag} {mg : Str → Option Value} {base : Heap} {fns : List FI} {errs : List EI} {cons : List Str} {free : List Str} {bx : Option FI} {kws : List (Nat × List Str × List Nat)} {bk : Int} {fA : Nat → Addr} {fD : Nat → FuncData} {Cn : List D}
/-- what the head tells of the defs -/
def Kn (K : PySem.W.Frag) (mg : Str → Option Value) (fns : List FI) (kws : List (Nat × List Str × List Nat)) (fA : Nat → Addr) (fD : Nat → FuncData) : Prop :=
  ∀ (i : Nat) (fi : FI), fns[i]? = some fi → mg fi.nm = some (.ref (fA i)) ∧ PySem.W.keepIn K (.ref (fA i)) = true ∧ Binds K (fD i) fi.ps [] ∧ ∀ ks pm, (i, ks, pm) ∈ kws → KwB K (fD i) fi.ps ks pm
/-- .. and of the rest -/
structure Re (P : Program) (K : PySem.W.Frag) (mg : Str → Option Value) (cons free : List Str) (errs : List EI) (Cn : List D) : Prop where
  er : ∀ (i : Nat) (ei : EI), errs[i]? = some ei → ∃ C, ErF P K mg ei C
  exm : ∀ (i j : Nat) (ei ej : EI) (ci cj : Value), errs[i]? = some ei → errs[j]? = some ej → mg ei.nm = some ci → mg ej.nm = some cj → PySem.W.exmOne K ci cj = some (decide (i = j))
  con : ∀ (i : Nat) (nm : Str), cons[i]? = some nm → ∃ (d : D) (u : Value) (v : V), Cn[i]? = some d ∧ mg nm = some u ∧ RelV v u ∧ ∀ H, Rp K H v d
  free : ∀ nm ∈ free, mg nm = none
/-- the defs keep what Fs says -/
def OkAt (P : Program) (w : World) (K : PySem.W.Frag) (mg : Str → Option Value) (base : Heap) (fns : List FI) (errs : List EI) (fA : Nat → Addr) (fD : Nat → FuncData) (k : Nat) (Fs : Nat → Fn) : Prop :=
  ∀ (i : Nat) (fi : FI), fns[i]? = some fi → FnOk P w K mg base (L2.CX P w) k (fA i) (fD i) fi.ps (spF K mg errs (Fs i) fi.ps.length) ∧ ∀ (as : List Val) (s : Bx), as.length ≠ fi.ps.length → Fs i as s = .bad
theorem ok_bad {k n : Nat} {f : Addr} {fd : FuncData} {ps : List Str} : FnOk P w K mg base (L2.CX P w) k f fd ps (spF K mg errs badF n) := by
  have no : ∀ vs H Q E, ¬ spF K mg errs badF n vs H Q E := fun vs H Q E ⟨_, _, _, _, _, _, _, _, _, h⟩ => h
  exact ⟨fun vs H Q E h => (no _ _ _ _ h).elim, fun A outer s H args us vs Q E _ _ _ _ h => (no _ _ _ _ h).elim⟩
theorem ok_zero : OkAt P w K mg base fns errs fA fD 0 fun _ => badF := fun i fi _ => ⟨ok_bad, fun _ _ _ => rfl⟩
theorem OkAt.mono {k k' : Nat} {Fs : Nat → Fn} (h : OkAt P w K mg base fns errs fA fD k Fs) (l : k ≤ k') : OkAt P w K mg base fns errs fA fD k' Fs := fun i fi e => ⟨(h i fi e).1.mono l, (h i fi e).2⟩
theorem OkAt.up {k j : Nat} {Fs : Nat → Fn} {F : Fn} (h : OkAt P w K mg base fns errs fA fD k Fs) (hF : ∀ fi, fns[j]? = some fi → FnOk P w K mg base (L2.CX P w) k (fA j) (fD j) fi.ps (spF K mg errs F fi.ps.length) ∧ ∀ (as : List Val) (s : Bx), as.length ≠ fi.ps.length → F as s = .bad) :
    OkAt P w K mg base fns errs fA fD k (upF Fs j F) := fun i fi e => by
  unfold upF
  by_cases ej : i = j
  · subst ej
    rw [if_pos rfl]
    exact hF fi e
  · rw [if_neg ej]
    exact h i fi e
/-- the maker of boxes -/
def BxOk (P : Program) (w : World) (K : PySem.W.Frag) (mg : Str → Option Value) (base : Heap) (bx : Option FI) (bk : Int) (k : Nat) : Prop :=
  ∀ fi, bx = some fi → ∃ f fd, mg fi.nm = some (.ref f) ∧ PySem.W.keepIn K (.ref f) = true ∧ Binds K fd fi.ps [] ∧ FnOk P w K mg base (L2.CX P w) k f fd fi.ps (spNew K bk)
theorem BxOk.mono {k k' : Nat} (h : BxOk P w K mg base bx bk k) (l : k ≤ k') : BxOk P w K mg base bx bk k' := fun fi e => by
  obtain ⟨f, fd, h1, h2, h3, h4⟩ := h fi e
  exact ⟨f, fd, h1, h2, h3, h4.mono l⟩
theorem gf_of (kn : Kn K mg fns kws fA fD) (re : Re P K mg cons free errs Cn) {k : Nat} {Fs : Nat → Fn} (h : OkAt P w K mg base fns errs fA fD k Fs) (hb : BxOk P w K mg base bx bk k) {N : List Str} : ∀ X : Cx, X.prog = P → X.w = w → X.K = K → X.mg = mg → X.base = base → GF ⟨N, fns, cons, errs, free, bx, kws, bk⟩ Fs Cn k X := fun X e1 e2 e3 e4 e5 => by
  subst e1 e2 e3 e4 e5
  refine ⟨fun i fi e => ?_, fun i fi as s e z => (h i fi e).2 as s z, re.con, re.free, re.er, re.exm, hb⟩
  obtain ⟨h1, h2, h3, h4⟩ := kn i fi e
  exact ⟨fA i, fD i, h1, h2, h3, (h i fi e).1, h4⟩
/-- the def j, by its code -/
theorem OkAt.code (kn : Kn K mg fns kws fA fD) (re : Re P K mg cons free errs Cn) {k j : Nat} {Fs : Nat → Fn} (h : OkAt P w K mg base fns errs fA fD k Fs) (hb : BxOk P w K mg base bx bk k) {N : List Str} {nm : Str} {ps : List Str} {x qual : Str} {params : Arguments} {body : List Stmt} {scope : Scope} {dvs : List V} {kwv : List (Str × V)} {c : Stas} (m : Nat)
    (ej : fns[j]? = some ⟨nm, ps⟩) (F : FunD K x qual params body scope dvs kwv (fA j) (fD j)) (S : FnScope N ps scope) (hc : mB ⟨N, fns, cons, errs, free, bx, kws, bk⟩ c ⟨scope, scope, true⟩ body = true) :
    OkAt P w K mg base fns errs fA fD (k + m) (upF Fs j (runRec Fs j Cn N.length ps.length c m)) := by
  refine (h.mono (Nat.le_add_right k m)).up fun fi e => ?_
  rw [ej] at e
  cases e
  induction m with
  | zero => exact ⟨ok_bad, fun _ _ _ => rfl⟩
  | succ m ih =>
    refine ⟨?_, fun as s z => if_neg z⟩
    have o : OkAt P w K mg base fns errs fA fD (k + m) (upF Fs j (runRec Fs j Cn N.length ps.length c m)) := (h.mono (Nat.le_add_right k m)).up fun fi e => by
      rw [ej] at e
      cases e
      exact ih
    exact fn_ok (g := ⟨N, fns, cons, errs, free, bx, kws, bk⟩) F S (gf_of kn re o (hb.mono (Nat.le_add_right k m))) hc
end
end Pd
namespace Pd
open PySem PySem.Spec PyProof.Rows L2
section
variable {P : Program} {w : World} {K : PySem.W.Frag} {mg : Str → Option Value} {base : Heap} {fns : List FI} {errs : List EI} {cons : List Str} {free : List Str} {bx : Option FI} {kws : List (Nat × List Str × List Nat)} {bk : Int} {fA : Nat → Addr} {fD : Nat → FuncData} {Cn : List D}
/-- .. by its parts, told apart -/
theorem OkAt.code2 (kn : Kn K mg fns kws fA fD) (re : Re P K mg cons free errs Cn) {k k' j m n p : Nat} {Fs Fs' : Nat → Fn} {F : Fn} (h : OkAt P w K mg base fns errs fA fD k Fs) (hb : BxOk P w K mg base bx bk 1) (h1 : 1 ≤ k) {N : List Str} {nm : Str} {ps : List Str} {x qual : Str} {params : Arguments} {body : List Stmt} {scope : Scope} {dvs : List V} {kwv : List (Str × V)} {c : Stas}
    (ej : fns[j]? = some ⟨nm, ps⟩) (FD : FunD K x qual params body scope dvs kwv (fA j) (fD j)) (S : FnScope N ps scope) (hc : mB ⟨N, fns, cons, errs, free, bx, kws, bk⟩ c ⟨scope, scope, true⟩ body = true)
    (en : N.length = n) (ep : ps.length = p) (eF : F = runRec Fs j Cn n p c m) (eFs : Fs' = upF Fs j F) (ek : k' = k + m) : OkAt P w K mg base fns errs fA fD k' Fs' := by
  subst en ep eF eFs ek
  exact OkAt.code kn re h (hb.mono h1) m ej FD S hc
end
end Pd
end
section
/-! Pd: the maker of boxes keeps its promise. -/
namespace Pd
open PySem PySem.Spec PyProof.Rows L2
theorem mk_ok {P : Program} {w : World} {K : PySem.W.Frag} {mg : Str → Option Value} {base : Heap} {x qual : Str} {params : Arguments} {st : Stmt} {e : Expr} {rp : Pos} {scope : Scope} {dvs : List V} {kws : List (Str × V)} {f : Addr} {fd : FuncData}
    {g : G} {ps : List Str} {k : Nat} {Φ : Nat → Fn} {Cn : List D} {c : Sta} {ce : Ex} (F : FunD K x qual params [st, .Return (some e) rp] scope dvs kws f fd) (S : FnScope g.N ps scope) (h2 : ps.length = 2)
    (gf : ∀ X : Cx, X.prog = P → X.w = w → X.K = K → X.mg = mg → X.base = base → GF g Φ Cn k X) (hc : mS g c ⟨scope, scope, true⟩ st = true) (hl : isLst ce = true) (he : mE g ce ⟨scope, scope, true⟩ e = true)
    (run : ∀ (u v : D) (bs s : Bx), boxF g.bk u v = some bs → ∃ ρ', exS Φ Cn c (startE g.N.length [.dat u, .dat v]) s = .go .nx ρ' s ∧ ev Φ Cn ce ρ' s = .ok (.list [.int bs.a, .int bs.b, .int bs.c]) s) :
    FnOk P w K mg base (L2.CX P w) (k + 1) f fd ps (spNew K g.bk) := by
  refine F.ok S (fun vs H Q E h => h.1.trans h2.symm) (fun cdv A outer s H vs Q E hr h => ?_)
  obtain ⟨hlen, β, M, s0, bs, v1, v2, u, v, rfl, bx, lv, bin, r1, r2, eb, hQ⟩ := h
  let X := cxOf (L2.CX P w) P w K mg base g.N qual scope f cdv A outer s H E
  have tk : Takes X (fun cls d _ H' => E cls d H') := takes_of (X := X) rfl rfl rfl (E₁ := fun e' s'' => L2.CX P w outer H s E e' s'') rfl
  have po : PassesOwn (model P w) X.A X.env X.xe := passes_of (X := X) (K := fun e s'' => L2.CX P w outer H s E e s'') (E₁ := fun e' s'' => L2.CX P w outer H s E e' s'') rfl
  have good : Good g Φ Cn k ⟨scope, scope, true⟩ X (fun cls d _ H' => E cls d H') :=
    ⟨gf X rfl rfl rfl rfl rfl, rfl, S.nd, rfl, rfl, hr, tk, po, (fun _ => ⟨rfl, rfl⟩), fun y hy => ⟨stoB_loc hy, .inl rfl⟩⟩
  have rv : RvA K β (hid M H) [v1, v2] [.dat u, .dat v] := .dat r1 (.dat r2 .nil)
  have A0 : At g Φ Cn k ⟨scope, scope, true⟩ X (fun cls d _ H' => E cls d H') β M (List.replicate (startE g.N.length [.dat u, .dat v]).length none) H (start g.N [v1, v2]) (startE g.N.length [.dat u, .dat v]) s0 := ⟨good, start_rel rv, bx, lv, bin⟩
  obtain ⟨ρ', e1, e2⟩ := run u v bs s0 eb
  refine ⟨_, pss_cons (wS_ps st) (pss_one (ps_ret (wE_pe e))), ?_⟩
  refine mS_ok (Φ := Φ) (Cn := Cn) (k := k) c ⟨scope, scope, true⟩ st hc X _ β M _ H _ _ s0 _ A0 ?_
  show PostS g Φ Cn k ⟨scope, scope, true⟩ X _ β M _ H (exS Φ Cn c (startE g.N.length [.dat u, .dat v]) s0) _
  rw [e1]
  intro ms1 H1 σ1 z1 A1
  refine isLst_ok (Φ := Φ) (Cn := Cn) (k := k) hl he X _ β M ms1 H1 σ1 ρ' s0 _ A1 ?_
  show PostF g X.K X.mg _ σ1 β _ H1 s0 (ev Φ Cn ce ρ' s0) _
  rw [e2]
  intro p ws H2 x2 hp hp2 r
  have x1 : Ext β M H s0 H1 s0 := by
    refine ⟨⟨fun a o z => ?_, z1.keep⟩, A1.box⟩
    have z3 := z1.same a o (by rw [owns_rep, List.append_nil]; exact z)
    exact hid_le (fun a ha => List.mem_append_left _ ha) a o z3
  have x3 : Ext β M H1 s0 H2 s0 := by
    refine ⟨⟨fun a o z => ?_, fun a ha hb => x2.keep a (List.mem_append_left _ ha) hb⟩, x2.box⟩
    obtain ⟨y1, y2⟩ := hid_some.mp z
    by_cases hm : a ∈ M ++ owns ms1
    · have hb : β ≠ some a := fun e => y1 (bin a e)
      exact hid_some.mpr ⟨y1, (x2.keep a hm hb).trans y2⟩
    · exact hid_some.mpr ⟨y1, (hid_some.mp (x2.same a o (hid_some.mpr ⟨hm, y2⟩))).2⟩
  have hpH : H p = none := by
    cases q : H p with
    | none => rfl
    | some o =>
      by_cases hm : p ∈ M
      · obtain ⟨o2, e⟩ := A1.live p hm
        rw [hp] at e
        cases e
      · have := (hid_some.mp (x1.same p o (hid_some.mpr ⟨hm, q⟩))).2
        rw [hp] at this
        cases this
  have ew : ws = [.int bs.a, .int bs.b, .int bs.c] := by
    cases r with
    | cons g1 r =>
      cases r with
      | cons g2 r =>
        cases r with
        | cons g3 r =>
          cases r
          cases g1
          cases g2
          cases g3
          rfl
  subst ew
  exact hQ p H2 (x1.trans x3) hpH hp2
end Pd
end
section
/-! Pd: what the head tells: defs, constants, the errors' classes. -/
namespace PdHd
open PySem PySem.Spec PyProof.Rows L2 Pd He
/-- an error's class in the text -/
structure ClD where
  nm : Str
  fld : Option Str
  look : Bool
  qual : Str
  params : Arguments
  body : List Stmt
  scope : Scope
def ClD.ei (c : ClD) : EI := ⟨c.nm, c.fld, c.look⟩
def baseOf (look : Bool) : String := if look then "LookupError" else "ValueError"
def newOf (look : Bool) : String := if look then "LookupError.__new__" else "ValueError.__new__"
def iniOf (look : Bool) : String := if look then "LookupError.__init__" else "ValueError.__init__"
def bmOf (look : Bool) : List Value := [.type (baseOf look), .type "Exception", .type "BaseException", .type "object"]
theorem baseF (look : Bool) : PdX.BaseF (baseOf look) (newOf look) (iniOf look) (bmOf look) := by
  cases look
  · exact PdX.base_VE
  · exact PdX.base_LE
abbrev FnI : Type := Option (Str × Str × Arguments × FuncBody × Scope × Addr × List Str × Addr)
def fnI (K : PySem.W.Frag) (c : ClD) : FnI := match c.fld with
  | none => none
  | some _ => match K.lookup (ma K (ga K c.nm) "__init__") with
    | some ⟨_, _, .func fd, _⟩ => some (fd.name, fd.qualname, fd.params, fd.body, fd.scope, fd.globals, fd.closure.map (·.1), fd.builtins)
    | _ => none
def ClD.val (c : ClD) : FnI := match c.fld with
  | none => none
  | some _ => some ("__init__", c.qual, c.params, .stmts c.body, c.scope, mainGlobals, ["__class__"], builtinsNs)
def clsB (K : PySem.W.Frag) (C : Addr) (look : Bool) : Bool := match K.lookup C with
  | some ⟨.type t, _, .cls cd, sl⟩ => (match cd.mro, sl.toList with
    | .ref C' :: bm, [_, _, _, _, some (.builtin n), _] => t == "type" && C' == C && n == newOf look && !cd.hasDel && cd.hasDict && bm == bmOf look
    | _, _ => false)
  | _ => false
theorem clsB_ok {K : PySem.W.Frag} {C : Addr} {look : Bool} (h : clsB K C look = true) : ∃ nm qn N bs sn sub ab col dd k0 k1 k2 k3 k5, K.lookup C = some (excClassObj nm qn C N bs (bmOf look) true sn sub ab col dd k0 k1 k2 k3 k5 (newOf look)) := by
  unfold clsB at h
  split at h
  · rename_i t dd cd sl ho
    split at h
    · rename_i C' bm k0 k1 k2 k3 n k5 hm hs
      simp only [Bool.and_eq_true, beq_iff_eq, Bool.not_eq_true'] at h
      obtain ⟨⟨⟨⟨⟨rfl, rfl⟩, rfl⟩, hdel⟩, hd⟩, rfl⟩ := h
      obtain ⟨nm, bs, mro, ns, qn, hdc, sn, sub, ab, col, del⟩ := cd
      dsimp only at hm hdel hd
      subst hm hdel hd
      have hsl : sl = #[k0, k1, k2, k3, some (.builtin (newOf look)), k5] := by
        obtain ⟨l⟩ := sl
        simp only at hs
        rw [hs]
      subst hsl
      exact ⟨nm, qn, ns, bs, sn, sub, ab, col, dd, k0, k1, k2, k3, k5, ho⟩
    · cases h
  · cases h
def cdaB (K : PySem.W.Frag) (prog : Program) (cda : Addr) : Bool := match K.lookup cda with
  | some ⟨_, _, Data.fields vs, _⟩ => (match vs[2]? with
    | some (Value.str file _) => (prog.main.file : Str) == file
    | _ => false)
  | _ => false
def cellB (K : PySem.W.Frag) (cc C : Addr) : Bool := match K.lookup cc with
  | some ⟨_, _, .cell (some (.ref D)), _⟩ => D == C
  | _ => false
def iniB (K : PySem.W.Frag) (prog : Program) (C : Addr) (q : Str) : Bool := match K.lookup (ma K C "__init__") with
  | some ⟨_, _, .func fd, _⟩ => (match fd.defaults, fd.kwdefaults, fd.code, fd.closure with
    | .none, .none, .ref cda, [(_, cc)] => PySem.W.codeIn K (.ref cda) q && cellB K cc C && cdaB K prog cda
    | _, _, _, _ => false)
  | _ => false
def dO (a b : Option (Option Value)) : Bool := decide (a = b)
def excB (K : PySem.W.Frag) (C : Addr) : Bool :=
  dO (PySem.W.findIn K (.ref C) "__getattribute__") (some (some (.builtin "BaseException.__getattribute__"))) && dO (PySem.W.findIn K (.ref C) "__getattr__") (some none) && decide (PySem.W.subIn K (.ref C) (.type "BaseException") = some true) && PySem.W.hasDictIn K C &&
    dO (PySem.W.findIn K (.ref C) "__class__") (some (some (.builtin "object.__class__"))) && dO (PySem.W.specialIn K (.builtin "object.__class__") "__get__") (some (some (.builtin "getset_descriptor.__get__"))) && decide (PySem.W.takesIn K (.builtin "object.__class__") = some true) && decide (PySem.W.mroIn K C (.type "object") = some true)
theorem excB_ok {K : PySem.W.Frag} {C : Addr} (h : excB K C = true) : ExcC K C := by
  unfold excB dO at h
  simp only [Bool.and_eq_true, decide_eq_true_eq] at h
  obtain ⟨⟨⟨⟨⟨⟨⟨h1, h2⟩, h3⟩, h4⟩, h5⟩, h6⟩, h7⟩, h8⟩ := h
  exact ⟨h1, h2, h3, h4, h5, h6, h7, h8⟩
def makB (K : PySem.W.Frag) (prog : Program) (C : Addr) (c : ClD) : Bool := match c.fld with
  | none => PySem.W.excIn K C (bmOf c.look) (newOf c.look)
  | some f => clsB K C c.look && dO (PySem.W.findIn K (.ref C) "__setattr__") (some (some (.builtin "object.__setattr__"))) && dO (PySem.W.findIn K (.ref C) f) (some none) && dO (PySem.W.findIn K (.ref C) "__init__") (some (some (.ref (ma K C "__init__")))) &&
      decide (PySem.W.typeIn K (.ref (ma K C "__init__")) = some (.type "function")) && dO (PySem.W.nsIn K cStatics "thirdparty.any") (some none) && dO (PySem.W.nsIn K mainGlobals "super") (some none) && !(prog.main.scope.names.lookup ("super" : Str)).isSome && iniB K prog C c.qual
def erB (K : PySem.W.Frag) (prog : Program) (c : ClD) : Bool :=
  dO (PySem.W.nsIn K mainGlobals c.nm) (some (some (.ref (ga K c.nm)))) && PySem.W.keepIn K (.ref (ga K c.nm)) && decide (PySem.W.typeIn K (.ref (ga K c.nm)) = some (.type "type")) && excB K (ga K c.nm) &&
    decide (PySem.W.kitOne K (.ref (ga K c.nm)) (.type "LookupError") = some c.look) && decide (PySem.W.kitOne K (.ref (ga K c.nm)) (.type "ValueError") = some (!c.look)) && makB K prog (ga K c.nm) c
/-- the text of an __init__ -/
def ClD.txt (c : ClD) : Prop := match c.fld with
  | none => True
  | some f => (∃ p1 p2, c.params = PdX.iA f p1 p2) ∧ (∃ q0 q1 q2 q3 q4 q5 q6 q7 q8 q9, (q2.endLine == q4.line) = true ∧ c.body = PdX.iB f q0 q1 q2 q3 q4 q5 q6 q7 q8 q9) ∧ c.scope = PdX.iS f ∧ f ≠ "self" ∧ (f == ("__debug__" : Str)) = false ∧ (("super" : Str) == f) = false ∧ (("__class__" : Str) == f) = false ∧ PdX.BindF f
theorem bindF_number : PdX.BindF "number" := by intro _ _ _ _ _ _ _ _ _ _ _ _ _ _ _ _ _ _ _ _ _; first | rfl | with_unfolding_all rfl
theorem bindF_name : PdX.BindF "name" := by intro _ _ _ _ _ _ _ _ _ _ _ _ _ _ _ _ _ _ _ _ _; first | rfl | with_unfolding_all rfl
theorem bindF_word : PdX.BindF "word" := by intro _ _ _ _ _ _ _ _ _ _ _ _ _ _ _ _ _ _ _ _ _; first | rfl | with_unfolding_all rfl
theorem bindF_piece : PdX.BindF "piece" := by intro _ _ _ _ _ _ _ _ _ _ _ _ _ _ _ _ _ _ _ _ _; first | rfl | with_unfolding_all rfl
theorem erB_ok {K : PySem.W.Frag} {prog : Program} {h : Heap} {mg : Str → Option Value} {c : ClD} (X : K.In h) (G : h.Ns mainGlobals mg) (e : fnI K c = c.val) (t : c.txt) (b : erB K prog c = true) : ErF prog K mg c.ei (ga K c.nm) := by
  unfold erB dO at b
  simp only [Bool.and_eq_true, decide_eq_true_eq] at b
  obtain ⟨⟨⟨⟨⟨⟨b1, b2⟩, b3⟩, b4⟩, b5⟩, b6⟩, b7⟩ := b
  refine ⟨PySem.W.mg_of X G b1, b2, b3, excB_ok b4, b5, b6, ?_⟩
  obtain ⟨nm, fld, look, qual, params, body, scope⟩ := c
  cases fld with
  | none => exact ⟨_, _, _, _, (baseF look).F, b7⟩
  | some f =>
    unfold makB dO at b7
    simp only [Bool.and_eq_true, decide_eq_true_eq, Bool.not_eq_true'] at b7
    obtain ⟨⟨⟨⟨⟨⟨⟨⟨c1, c2⟩, c3⟩, c4⟩, c5⟩, c6⟩, c7⟩, c8⟩, c9⟩ := b7
    obtain ⟨⟨p1, p2, rfl⟩, ⟨q0, q1, q2, q3, q4, q5, q6, q7, q8, q9, ln, rfl⟩, rfl, n1, n2, n3, n4, bi⟩ := t
    refine ⟨_, _, _, _, ma K (ga K nm) "__init__", qual, baseF look, ⟨clsB_ok c1, c2, c3, c4, c5, c6, c7, c8, ?_⟩, n1, n2, n3, n4, bi⟩
    unfold iniB at c9
    unfold fnI ClD.val at e
    dsimp only at e c9
    cases q : K.lookup (ma K (ga K nm) "__init__") with
    | none =>
      rw [q] at c9
      cases c9
    | some o =>
      obtain ⟨oc, od, dt, osl⟩ := o
      rw [q] at c9 e
      cases dt with
      | func fd =>
        obtain ⟨m1, m2, m3, m4, m5, m6, m7, m8, m9, m10, m11, m12, m13, m14, m15⟩ := fd
        dsimp only at c9 e
        split at c9
        · rename_i cda x cc
          simp only [Option.some.injEq, Prod.mk.injEq, List.map_cons, List.map_nil, List.cons.injEq, and_true] at e
          obtain ⟨h1, h2, h3, h4, h5, h6, h7, h8⟩ := e
          subst h1 h2 h3 h4 h5 h6 h7 h8
          simp only [Bool.and_eq_true] at c9
          obtain ⟨⟨d1, d2⟩, d3⟩ := c9
          refine ⟨oc, od, _, _, _, _, osl, cc, cda, p1, p2, q0, q1, q2, q3, q4, q5, q6, q7, q8, q9, rfl, ln, d1, ?_, ?_⟩
          · unfold cellB at d2
            split at d2
            · rename_i D _ ho
              have : D = ga K nm := by simpa using d2
              subst this
              exact ⟨_, _, _, ho⟩
            · cases d2
          · unfold cdaB at d3
            split at d3
            · rename_i vs _ ho
              split at d3
              · rename_i file tf hv
                exact ⟨_, _, _, vs, file, tf, ho, hv, d3⟩
              · cases d3
            · cases d3
        · cases c9
      | _ => cases c9
/-- an except clause for each of the classes -/
def exmB (K : PySem.W.Frag) (cl : List ClD) : Bool := (cl.zipIdx).all fun a => (cl.zipIdx).all fun b => decide (PySem.W.exmOne K (.ref (ga K a.1.nm)) (.ref (ga K b.1.nm)) = some (decide (a.2 = b.2)))
/-! ### the Hook -/
abbrev AlP : Type := Bool × List FnW × List FnI
def obsP (prog : Program) (ex : PySem.W.Frag → Bool) (fa : List Fa) (fn : List DefD) (cl : List ClD) (K : PySem.W.Frag) : AlP := ((obsD fa fn K).1 && (ex K && ((cl.all fun c => erB K prog c) && exmB K cl)), (obsD fa fn K).2, cl.map (fnI K))
def valP (fn : List DefD) (cl : List ClD) : AlP := (true, fn.map DefD.val, cl.map ClD.val)
def SaysP (prog : Program) (ex : PySem.W.Frag → Bool) (fa : List Fa) (fn : List DefD) (cl : List ClD) (K : PySem.W.Frag) : Prop := obsP prog ex fa fn cl K = valP fn cl
def asP (g : Addr → Option Obj) (n : Nat) : List Addr := cStatics :: asD g n
def obsPG (prog : Program) (ex : PySem.W.Frag → Bool) (n : Nat) (fa : List Fa) (fn : List DefD) (cl : List ClD) (g : Addr → Option Obj) : AlP := obsP prog ex fa fn cl (frG g (asP g n))
def hookP (prog : Program) (ex : PySem.W.Frag → Bool) (n : Nat) (fa : List Fa) (fn : List DefD) (cl : List ClD) : PySem.W.Hook where
  α := AlP
  obs := fun s => obsPG prog ex n fa fn cl s.heap.get?
  val := fun _ => valP fn cl
  says := fun _ h => ∃ K : PySem.W.Frag, K.In h ∧ SaysP prog ex fa fn cl K
  of := fun _ _ e => ⟨_, frG_in, e⟩
  keeps := fun _ _ _ ⟨K, hK, c⟩ k => ⟨K, PySem.W.Frag.In.keeps hK k, c⟩
theorem obsPG_eq {prog : Program} {ex : PySem.W.Frag → Bool} {n : Nat} {fa : List Fa} {fn : List DefD} {cl : List ClD} {g : Addr → Option Obj} {s : Shared} (h : ∀ a, g a = s.heap.get? a) : obsPG prog ex n fa fn cl g = (hookP prog ex n fa fn cl).obs s := by
  have e : g = s.heap.get? := funext h
  rw [e] <;> rfl
section
variable {prog : Program} {ex : PySem.W.Frag → Bool} {fa : List Fa} {fn : List DefD} {cl : List ClD} {K : PySem.W.Frag}
theorem SaysP.d (c : SaysP prog ex fa fn cl K) : SaysD fa fn K := by
  have h1 : ((obsD fa fn K).1 && (ex K && ((cl.all fun c => erB K prog c) && exmB K cl))) = true := congrArg (fun z : AlP => z.1) c
  have h2 : (obsD fa fn K).2 = fn.map DefD.val := congrArg (fun z : AlP => z.2.1) c
  rw [Bool.and_eq_true] at h1
  exact Prod.ext h1.1 h2
theorem SaysP.e (c : SaysP prog ex fa fn cl K) : ex K = true ∧ (cl.all fun c => erB K prog c) = true ∧ exmB K cl = true := by
  have h1 : ((obsD fa fn K).1 && (ex K && ((cl.all fun c => erB K prog c) && exmB K cl))) = true := congrArg (fun z : AlP => z.1) c
  simp only [Bool.and_eq_true] at h1
  exact ⟨h1.2.1, h1.2.2.1, h1.2.2.2⟩
theorem SaysP.er {h : Heap} {mg : Str → Option Value} (X : K.In h) (G : h.Ns mainGlobals mg) (c : SaysP prog ex fa fn cl K) (t : ∀ x ∈ cl, ClD.txt x) : ∀ (i : Nat) (ei : EI), (cl.map ClD.ei)[i]? = some ei → ∃ C, ErF prog K mg ei C := fun i ei e => by
  rw [List.getElem?_map] at e
  obtain ⟨x, e1, rfl⟩ := Option.map_eq_some_iff.mp e
  have hm := List.mem_of_getElem? e1
  have b := List.all_eq_true.mp c.e.2.1 x hm
  have q : cl.map (fnI K) = cl.map ClD.val := congrArg (fun z : AlP => z.2.2) c
  have q2 : (cl.map (fnI K))[i]? = (cl.map ClD.val)[i]? := by rw [q]
  rw [List.getElem?_map, List.getElem?_map, e1] at q2
  exact ⟨_, erB_ok X G (Option.some.inj q2) (t x hm) b⟩
theorem SaysP.exm {h : Heap} {mg : Str → Option Value} (X : K.In h) (G : h.Ns mainGlobals mg) (c : SaysP prog ex fa fn cl K) : ∀ (i j : Nat) (ei ej : EI) (ci cj : Value), (cl.map ClD.ei)[i]? = some ei → (cl.map ClD.ei)[j]? = some ej → mg ei.nm = some ci → mg ej.nm = some cj → PySem.W.exmOne K ci cj = some (decide (i = j)) := fun i j ei ej ci cj e1 e2 m1 m2 => by
  rw [List.getElem?_map] at e1 e2
  obtain ⟨x, f1, rfl⟩ := Option.map_eq_some_iff.mp e1
  obtain ⟨y, f2, rfl⟩ := Option.map_eq_some_iff.mp e2
  clear e1 e2
  have g1 : ∀ z ∈ cl, mg z.nm = some (.ref (ga K z.nm)) := fun z hz => by
    have b := List.all_eq_true.mp c.e.2.1 z hz
    unfold erB dO at b
    simp only [Bool.and_eq_true, decide_eq_true_eq] at b
    exact PySem.W.mg_of X G b.1.1.1.1.1.1
  have hx := g1 x (List.mem_of_getElem? f1)
  have hy := g1 y (List.mem_of_getElem? f2)
  rw [show mg x.ei.nm = _ from hx] at m1
  rw [show mg y.ei.nm = _ from hy] at m2
  cases m1
  cases m2
  have b := c.e.2.2
  have k1 : (x, i) ∈ cl.zipIdx := by rw [List.mk_mem_zipIdx_iff_getElem?]; exact f1
  have k2 : (y, j) ∈ cl.zipIdx := by rw [List.mk_mem_zipIdx_iff_getElem?]; exact f2
  have b1 := List.all_eq_true.mp (List.all_eq_true.mp b _ k1) _ k2
  exact of_decide_eq_true b1
end
end PdHd
namespace PdHd
open PySem PySem.Spec PyProof.Rows L2 Pd He
def clsIni : Stmt → Stmt
  | .ClassDef _ _ _ (b :: _) _ _ _ _ _ _ _ => b
  | s => s
section
variable {prog : Program} {ex : PySem.W.Frag → Bool} {fa : List Fa} {fn : List DefD} {cl : List ClD} {K : PySem.W.Frag}
theorem SaysP.defs (c : SaysP prog ex fa fn cl K) {d0 : DefD} (h0 : fn[0]? = some d0) : ∃ fD : Nat → FuncData, ∀ (i : Nat) (d : DefD), fn[i]? = some d → FunD K d.name d.qual d.params d.body d.scope (d.dvs K) (d.kws K) (fAd K d.at_) (fD i) := by
  refine Classical.axiomOfChoice (r := fun (i : Nat) (fd : FuncData) => ∀ d : DefD, fn[i]? = some d → FunD K d.name d.qual d.params d.body d.scope (d.dvs K) (d.kws K) (fAd K d.at_) fd) fun i => ?_
  cases e : fn[i]? with
  | none =>
    obtain ⟨fd, _⟩ := c.d.def_ 0 h0
    exact ⟨fd, fun d z => by cases z⟩
  | some d =>
    obtain ⟨fd, F⟩ := c.d.def_ i e
    exact ⟨fd, fun d' z => by cases z; exact F⟩
def fAdr (fn : List DefD) (K : PySem.W.Frag) (i : Nat) : Addr := match fn[i]? with
  | some d => fAd K d.at_
  | none => 0
theorem kw_of {x qual : Str} {params : Arguments} {body : List Stmt} {scope : Scope} {kws : List (Str × V)} {f : Addr} {fd : FuncData} (F : FunD K x qual params body scope [] kws f fd) {ps ks : List Str} {pm : List Nat} (h1 : pm.length = ps.length) (h2 : ∀ i ∈ pm, i < ks.length)
    (h : ∀ (kV doc pmV : Value) (an : Option Addr) (cdv ct : Value) (ws : List Value), ws.length = ks.length → bindArgs (PySem.W.fnOf x qual params body scope .none kV doc pmV an cdv ct) ⟨[], ks.zip ws⟩ = pure (ps.zip (pmL pm ws))) : KwB K fd ps ks pm := by
  obtain ⟨oc, od, dV, kV, doc, pmV, an, cdv, ct, osl, rfl, lk, hcd, hD, hK⟩ := F.ex
  rcases hD with ⟨_, rfl⟩ | ⟨e, _⟩
  · exact ⟨h1, h2, fun s ws X hl => .of_eq (h kV doc pmV an cdv ct ws hl)⟩
  · exact absurd rfl e
/-- a constant of the module that is a text, an int -/
theorem con_str {h : Heap} {mg : Str → Option Value} (X : K.In h) (G : h.Ns mainGlobals mg) {x z : Str} (c : (Fa.str x z).ok K = true) : ∃ (u : Value) (v : V), mg x = some u ∧ RelV v u ∧ ∀ H, Rp K H v (.str z) := by
  obtain ⟨t, e⟩ := str_ok X G c
  exact ⟨_, .str z, e, ⟨t, rfl⟩, fun H => .str z⟩
theorem con_int {h : Heap} {mg : Str → Option Value} (X : K.In h) (G : h.Ns mainGlobals mg) {x : Str} {i : Int} (c : (Fa.int x i).ok K = true) : ∃ (u : Value) (v : V), mg x = some u ∧ RelV v u ∧ ∀ H, Rp K H v (.int i) := by
  obtain ⟨t, e⟩ := int_ok X G c
  exact ⟨_, .int i, e, ⟨t, rfl⟩, fun H => .int i⟩
/-- .. a tuple of texts, ints -/
def conD : D → Dv
  | .str x => .str x
  | .int i => .int i
  | _ => .non
theorem con_tup {h : Heap} {mg : Str → Option Value} (X : K.In h) (G : h.Ns mainGlobals mg) {x : Str} {ds : List D} (c : (Fa.glo x).ok K = true) (t : tupB K x (ds.map conD) = true) (hs : (ds.all fun d => match d with
    | .str _ => true
    | .int _ => true
    | _ => false) = true) : ∃ (u : Value) (v : V), mg x = some u ∧ RelV v u ∧ ∀ H, Rp K H v (.tuple ds) := by
  refine ⟨_, .ref (ga K x), glo_ok X G c, rfl, fun H => .tup (tupB_ok t H) ?_⟩
  clear t c
  induction ds with
  | nil => exact .nil
  | cons d r ih =>
    rw [List.all_cons, Bool.and_eq_true] at hs
    refine .cons ?_ (ih hs.2)
    cases d <;> first | exact .str _ | exact .int _ | cases hs.1
end
/-- the law's end -/
theorem end_sp {K : PySem.W.Frag} {mg : Str → Option Value} {errs : List EI} {F : Fn} (hF : ∀ ns : List Int, ns.length ≤ 63 → ∀ s, ∃ s', F [.scr ns] s = .ok (.bool true) s') (H : Hp) (a : Addr) (ns : List Int) (hl : ns.length ≤ 63) (hS : SqL K H a (ns.map V.int)) :
    spF K mg errs F 1 [.ref a] H (fun v _ => v = .bl true) (fun _ _ _ => False) := by
  obtain ⟨s', e⟩ := hF ns hl ⟨0, 0, 0⟩
  refine ⟨rfl, none, [], ⟨0, 0, 0⟩, [.scr ns], True.intro, (fun a h => by cases h), (fun b h => by cases h), .scr ⟨a, rfl, by rw [hid_nil]; exact hS⟩ .nil, ?_⟩
  rw [e]
  exact fun v H' _ r => by cases r; rfl
end PdHd
namespace PdHd
open PySem PySem.Spec PyProof.Rows L2 Pd He
def cBox : Sta := .asg 2 (.ite (.cmp .Lt (.slot 1) (.bi .len (.slot 0))) (.idx (.slot 0) (.slot 1)) (.lit (.int 0)))
def eBox (kz : Int) : Ex := .lst (.cons (.bin .Mult (.bi .abs (.slot 2)) (.bi .int (.cmp .GtE (.bi .abs (.slot 2)) (.bin .Pow (.lit (.int 10)) (.lit (.int 18))))))
  (.cons (.bin .Add (.bin .Add (.bin .Mod (.bi .int (.slot 2)) (.lit (.int 2305843009213693951))) (.bin .Mult (.lit (.int 39373)) (.slot 1))) (.lit (.int kz))) (.cons (.lit (.int 0)) .nil)))
theorem box_run {Φ : Nat → Fn} {Cn : List D} {kz : Int} {u v : D} {bs s : Bx} (h : boxF kz u v = some bs) : ∃ ρ', exS Φ Cn cBox [.dat u, .dat v, .un] s = .go .nx ρ' s ∧ ev Φ Cn (eBox kz) ρ' s = .ok (.list [.int bs.a, .int bs.b, .int bs.c]) s := by
  cases u with
  | list xs =>
    cases v with
    | int k =>
      unfold boxF at h
      dsimp only at h
      by_cases hk : 0 ≤ k
      · rw [if_pos hk] at h
        have key : ∀ c : Int, (if k < (xs.length : Int) then xs[k.toNat]? else some (.int 0)) = some (.int c) → bs = ⟨(if c < 0 then -c else c) * (if (if c < 0 then -c else c) ≥ 10 ^ 18 then 1 else 0), c % 2305843009213693951 + 39373 * k + kz, 0⟩ →
            exS Φ Cn cBox [.dat (.list xs), .dat (.int k), .un] s = .go .nx [.dat (.list xs), .dat (.int k), .dat (.int c)] s ∧ ev Φ Cn (eBox kz) [.dat (.list xs), .dat (.int k), .dat (.int c)] s = .ok (.list [.int bs.a, .int bs.b, .int bs.c]) s := by
          intro c hc hb
          constructor
          · by_cases hl : k < (xs.length : Int)
            · rw [if_pos hl] at hc
              have e1 : L2.atI xs k = some (.int c) := by
                have := L2.atI_nat hc
                rw [Int.toNat_of_nonneg hk] at this
                exact this
              simp [cBox, exS, ev, isOwn, getSlot, M.bind, M.pure, M.ofOpt, lft, SM.go, cmpD, ltD, biD, trM, truth, idxD, hl, e1]
            · rw [if_neg hl] at hc
              cases hc
              simp [cBox, exS, ev, isOwn, getSlot, M.bind, M.pure, M.ofOpt, lft, SM.go, cmpD, ltD, biD, trM, truth, idxD, hl]
          · subst hb
            have e18 : small 10 = true := by decide
            by_cases g18 : (1000000000000000000 : Int) ≤ (if c < 0 then -c else c)
            · simp [eBox, ev, evs, isOwn, getSlot, M.bind, M.pure, M.ofOpt, cmpD, biD, binD, ckLim, lim, sizeLine, small, g18]
            · simp [eBox, ev, evs, isOwn, getSlot, M.bind, M.pure, M.ofOpt, cmpD, biD, binD, ckLim, lim, sizeLine, small, g18]
        cases hx : (if k < (xs.length : Int) then xs[k.toNat]? else some (.int 0)) with
        | none =>
          rw [hx] at h
          cases h
        | some d =>
          rw [hx] at h
          cases d with
          | int c => exact ⟨_, key c hx (Option.some.inj h).symm⟩
          | _ => cases h
      · rw [if_neg hk] at h
        cases h
    | _ => cases h
  | _ => cases h
def boxChk (g : G) (scope : Scope) : List Stmt → Bool
  | [st, .Return (some e) _] => mS g cBox ⟨scope, scope, true⟩ st && mE g (eBox g.bk) ⟨scope, scope, true⟩ e
  | _ => false
theorem box_ok {P : Program} {w : World} {K : PySem.W.Frag} {mg : Str → Option Value} {base : Heap} {x qual : Str} {params : Arguments} {body : List Stmt} {scope : Scope} {kws : List (Str × V)} {f : Addr} {fd : FuncData}
    {g : G} {ps : List Str} {k : Nat} {Φ : Nat → Fn} {Cn : List D} (F : FunD K x qual params body scope [] kws f fd) (S : FnScope g.N ps scope) (hN : g.N.length = 3) (hps : ps.length = 2)
    (gf : ∀ X : Cx, X.prog = P → X.w = w → X.K = K → X.mg = mg → X.base = base → GF g Φ Cn k X) (hc : boxChk g scope body = true) : FnOk P w K mg base (L2.CX P w) (k + 1) f fd ps (spNew K g.bk) := by
  unfold boxChk at hc
  split at hc
  · rw [Bool.and_eq_true] at hc
    refine mk_ok F S hps gf hc.1 (by rfl) hc.2 fun u v bs s h => ?_
    rw [hN]
    exact box_run h
  · cases hc
/-- a law: as walk_ofE, the wish of errors by the world -/
theorem walk_ofP {l : PySem.W.OpenLaw} {n k : Nat} {q : Program} {loose : List Str} {XP : (Str → Option Value) → Heap → Prop} {YP : World → Heap → Prop} {d : DefRec} {x : Str}
    (hn : l.most = some n) (hn2 : n ≤ sizeLine) (hdf : d.params.defaults = []) (hr : Room k callerA)
    (F : ∀ (w : World) (mg : Str → Option Value) (fa : Addr) (h : Heap), YP w h → h.Ns mainGlobals mg → mg d.name = some (.ref fa) →
      ∃ (K : PySem.W.Frag) (fd : FuncData) (sp : Sp), K.In h ∧ (∀ (s : Shared) (u : Value), BindsTo s fd ⟨[u], []⟩ [(x, u)]) ∧
        (∀ (H : Hp) (a : Addr) (ns : List Int), ns.length ≤ n → Only H → SqL K H a (ns.map V.int) → sp [.ref a] H (fun v _ => v = .bl true) fun _ _ _ => False) ∧
        ∀ base : Heap, K.In base → base.Ns mainGlobals mg → FnOk l.prog w K mg base (L2.CX l.prog w) k fa fd [x] sp) :
    PySem.W.WalkO q loose XP YP l.row.toRowW d [] (fun f vs => PySem.call f vs) := by
  refine Att.attach_call hn hdf fun w s₀ s₁ mg mb fa o pm cd doc a vs ns G Y ho hd hcd hmg hobj hints hlen hg => ?_
  obtain ⟨K, fd, sp, KX, hb, hsp, hF⟩ := F w mg fa _ Y G.T.g hmg
  exact law_call KX G.T.g G.T.b G.T.builtins G.T.nolimit hg hobj hints (Nat.le_trans hlen hn2) hr hF hb (fun H hO hS => hsp H a ns hlen hO hS) fun H e s' z => by
    obtain ⟨_, _, _, _, _, _, _, _, _, _, _, _, z⟩ := z
    exact z
end PdHd
end
section
/-! Pd, plain laws: order, sets of data. -/
namespace Pm
open PySem PyProof.Rows Pd
/-- a < b -/
abbrev lt (a b : D) : Prop := W.dataLt a b = true
theorem lt_irrefl (a : D) : ¬ lt a a := by
  show ¬ (W.dataLt a a = true)
  unfold W.dataLt
  rw [lex_irrefl]
  exact Bool.false_ne_true
theorem lt_trans {a b c : D} (h1 : lt a b) (h2 : lt b c) : lt a c := lex_trans _ _ _ h1 h2
theorem lt_asymm {a b : D} (h1 : lt a b) (h2 : lt b a) : False := lt_irrefl a (lt_trans h1 h2)
/-- texts, ints, pairs of texts: told by their signs -/
def simpD : D → Bool
  | .str _ => true
  | .int _ => true
  | .tuple [.str _, .str _] => true
  | _ => false
theorem str_ext {x y : Str} (h : x.cps = y.cps) : x = y := by
  cases x
  cases y
  cases h
  rfl
theorem tok_inj {a b : D} (ha : simpD a = true) (hb : simpD b = true) (h : W.keyToks a = W.keyToks b) : a = b := by
  unfold simpD at ha hb
  split at ha <;> split at hb <;> first
    | (cases ha; done)
    | (cases hb; done)
    | (simp [W.keyToks, W.keyToksAll] at h
       try first
         | (rw [str_ext h]; done)
         | (rw [str_ext h.1, str_ext h.2]; done)
         | (rw [h]; done))
theorem lt_tri {a b : D} (ha : simpD a = true) (hb : simpD b = true) (h1 : ¬ lt a b) (h2 : ¬ lt b a) : a = b :=
  tok_inj ha hb (lex_total _ _ (by simpa [lt, W.dataLt] using h1) (by simpa [lt, W.dataLt] using h2))
theorem eqv_iff {a b : D} (ha : simpD a = true) (hb : simpD b = true) : PyData.eqv a b = true ↔ a = b := by
  unfold simpD at ha hb
  split at ha <;> split at hb <;> first
    | (cases ha; done)
    | (cases hb; done)
    | (simp [PyData.eqv, PyData.eqvAll])
theorem sorted_unique : ∀ {xs ys : List D}, xs.Pairwise lt → ys.Pairwise lt → (∀ d, d ∈ xs ↔ d ∈ ys) → xs = ys
  | [], [], _, _, _ => rfl
  | [], y :: ys, _, _, h => absurd ((h y).mpr List.mem_cons_self) (by simp)
  | x :: xs, [], _, _, h => absurd ((h x).mp List.mem_cons_self) (by simp)
  | x :: xs, y :: ys, hx, hy, h => by
    obtain ⟨x1, x2⟩ := List.pairwise_cons.mp hx
    obtain ⟨y1, y2⟩ := List.pairwise_cons.mp hy
    have e : x = y := by
      rcases List.mem_cons.mp ((h x).mp List.mem_cons_self) with e | hm
      · exact e
      · rcases List.mem_cons.mp ((h y).mpr List.mem_cons_self) with e | hm2
        · exact e.symm
        · exact (lt_asymm (y1 x hm) (x1 y hm2)).elim
    subst e
    refine congrArg (x :: ·) (sorted_unique x2 y2 fun d => ⟨fun hd => ?_, fun hd => ?_⟩)
    · rcases List.mem_cons.mp ((h d).mp (List.mem_cons_of_mem _ hd)) with rfl | q
      · exact (lt_irrefl _ (x1 d hd)).elim
      · exact q
    · rcases List.mem_cons.mp ((h d).mpr (List.mem_cons_of_mem _ hd)) with rfl | q
      · exact (lt_irrefl _ (y1 d hd)).elim
      · exact q
theorem memD_iff {x : D} {xs : List D} (hx : simpD x = true) (h : ∀ y ∈ xs, simpD y = true) : memD x xs = true ↔ x ∈ xs := by
  unfold memD
  rw [List.any_eq_true]
  constructor
  · rintro ⟨y, hy, e⟩
    rw [← (eqv_iff (h y hy) hx).mp e]
    exact hy
  · exact fun hm => ⟨x, hm, (eqv_iff hx hx).mpr rfl⟩
theorem mem_dedup : ∀ {xs : List D}, (∀ y ∈ xs, simpD y = true) → ∀ d, d ∈ dedup xs ↔ d ∈ xs
  | [], _, d => by simp [dedup]
  | x :: r, h, d => by
    have h1 : ∀ y ∈ r, simpD y = true := fun y hy => h y (List.mem_cons_of_mem _ hy)
    have ih := mem_dedup h1 d
    unfold dedup
    split
    · rename_i hm
      have hm := (memD_iff (h x List.mem_cons_self) (fun y hy => h1 y ((mem_dedup h1 y).mp hy))).mp hm
      rw [ih, List.mem_cons]
      exact ⟨.inr, fun z => z.elim (fun e => e ▸ (mem_dedup h1 x).mp hm) id⟩
    · rw [List.mem_cons, List.mem_cons, ih]
theorem nodup_dedup : ∀ {xs : List D}, (∀ y ∈ xs, simpD y = true) → (dedup xs).Nodup
  | [], _ => List.nodup_nil
  | x :: r, h => by
    have h1 : ∀ y ∈ r, simpD y = true := fun y hy => h y (List.mem_cons_of_mem _ hy)
    unfold dedup
    split
    · exact nodup_dedup h1
    · rename_i hm
      refine List.nodup_cons.mpr ⟨fun z => hm ((memD_iff (h x List.mem_cons_self) (fun y hy => h1 y ((mem_dedup h1 y).mp hy))).mpr z), nodup_dedup h1⟩
theorem mem_insD {x d : D} : ∀ {xs : List D}, d ∈ insD x xs ↔ d = x ∨ d ∈ xs
  | [] => by simp [insD]
  | y :: r => by
    unfold insD
    split
    · rw [List.mem_cons, mem_insD, List.mem_cons]
      constructor
      · rintro (h | h | h) <;> simp [h]
      · rintro (h | h | h) <;> simp [h]
    · rw [List.mem_cons, List.mem_cons]
theorem mem_isortD {d : D} : ∀ {xs : List D}, d ∈ isortD xs ↔ d ∈ xs
  | [] => Iff.rfl
  | x :: r => by
    show d ∈ insD x (isortD r) ↔ _
    rw [mem_insD, mem_isortD, List.mem_cons]
theorem insD_sorted {x : D} (hx : simpD x = true) : ∀ {xs : List D}, (∀ y ∈ xs, simpD y = true) → x ∉ xs → xs.Pairwise lt → (insD x xs).Pairwise lt
  | [], _, _, _ => List.pairwise_singleton _ _
  | y :: r, h, hn, hs => by
    obtain ⟨h1, h2⟩ := List.pairwise_cons.mp hs
    have hy := h y List.mem_cons_self
    have hr : ∀ z ∈ r, simpD z = true := fun z hz => h z (List.mem_cons_of_mem _ hz)
    unfold insD
    split
    · rename_i c
      refine List.pairwise_cons.mpr ⟨fun z hz => ?_, insD_sorted hx hr (fun z => hn (List.mem_cons_of_mem _ z)) h2⟩
      rcases mem_insD.mp hz with rfl | hz
      · exact c
      · exact h1 z hz
    · rename_i c
      have c2 : lt x y := by
        by_cases q : lt x y
        · exact q
        · exact absurd (lt_tri hx hy q c) (fun e => hn (e ▸ List.mem_cons_self))
      refine List.pairwise_cons.mpr ⟨fun z hz => ?_, hs⟩
      rcases List.mem_cons.mp hz with rfl | hz
      · exact c2
      · exact lt_trans c2 (h1 z hz)
theorem isortD_sorted : ∀ {xs : List D}, (∀ y ∈ xs, simpD y = true) → xs.Nodup → (isortD xs).Pairwise lt
  | [], _, _ => List.Pairwise.nil
  | x :: r, h, hn => by
    obtain ⟨h1, h2⟩ := List.nodup_cons.mp hn
    exact insD_sorted (h x List.mem_cons_self) (fun y hy => h y (List.mem_cons_of_mem _ (mem_isortD.mp hy))) (fun z => h1 (mem_isortD.mp z)) (isortD_sorted (fun y hy => h y (List.mem_cons_of_mem _ hy)) h2)
/-- sorted(set(xs)) -/
def Sst (xs : List D) : List D := isortD (dedup xs)
theorem mem_Sst {xs : List D} (h : ∀ y ∈ xs, simpD y = true) (d : D) : d ∈ Sst xs ↔ d ∈ xs := mem_isortD.trans (mem_dedup h d)
theorem Sst_sorted {xs : List D} (h : ∀ y ∈ xs, simpD y = true) : (Sst xs).Pairwise lt := isortD_sorted (fun y hy => h y ((mem_dedup h y).mp hy)) (nodup_dedup h)
/-- what is sorted and has just these is it -/
theorem Sst_eq {xs ys : List D} (h : ∀ y ∈ xs, simpD y = true) (hs : ys.Pairwise lt) (hm : ∀ d, d ∈ ys ↔ d ∈ xs) : Sst xs = ys := sorted_unique (Sst_sorted h) hs fun d => (mem_Sst h d).trans (hm d).symm
theorem sorted_nodup {xs : List D} (h : xs.Pairwise lt) : xs.Nodup := h.imp fun {a b} h e => by
  subst e
  exact lt_irrefl _ h

/-! ### names -/
/-- a < b of texts -/
abbrev ltS (x y : Str) : Prop := lt (.str x) (.str y)
def nD (xs : List Str) : List D := xs.map .str
theorem nD_simp {xs : List Str} : ∀ y ∈ nD xs, simpD y = true := fun y hy => by
  obtain ⟨x, _, rfl⟩ := List.mem_map.mp hy
  rfl
theorem mem_nD {x : Str} {xs : List Str} : (.str x : D) ∈ nD xs ↔ x ∈ xs := by
  unfold nD
  rw [List.mem_map]
  exact ⟨fun ⟨y, h, e⟩ => by cases e; exact h, fun h => ⟨x, h, rfl⟩⟩
def strOf : D → Option Str
  | .str x => some x
  | _ => none
/-- sorted(set(xs)), by texts -/
def ss (xs : List Str) : List Str := (Sst (nD xs)).filterMap strOf
theorem nD_of {ds : List D} (h : ∀ d ∈ ds, ∃ x, d = .str x) : nD (ds.filterMap strOf) = ds := by
  induction ds with
  | nil => rfl
  | cons d r ih =>
    obtain ⟨x, rfl⟩ := h d List.mem_cons_self
    show PyData.str x :: nD (r.filterMap strOf) = _
    rw [ih fun d hd => h d (List.mem_cons_of_mem _ hd)]
theorem Sst_nD (xs : List Str) : Sst (nD xs) = nD (ss xs) := by
  refine (nD_of fun d hd => ?_).symm
  obtain ⟨x, _, rfl⟩ := List.mem_map.mp ((mem_Sst nD_simp d).mp hd)
  exact ⟨x, rfl⟩
theorem mem_ss {x : Str} {xs : List Str} : x ∈ ss xs ↔ x ∈ xs := by
  rw [← mem_nD, ← Sst_nD, mem_Sst nD_simp, mem_nD]
theorem nD_sorted {xs : List Str} : (nD xs).Pairwise lt ↔ xs.Pairwise ltS := List.pairwise_map
theorem ss_sorted (xs : List Str) : (ss xs).Pairwise ltS := by
  rw [← nD_sorted, ← Sst_nD]
  exact Sst_sorted nD_simp
theorem str_inj : Function.Injective (PyData.str) := fun a b e => by cases e; rfl
theorem nD_inj {xs ys : List Str} (h : nD xs = nD ys) : xs = ys := (List.map_inj_right (fun a b e => str_inj e)).mp h
theorem ss_eq {xs ys : List Str} (hs : ys.Pairwise ltS) (hm : ∀ d, d ∈ ys ↔ d ∈ xs) : ss xs = ys := by
  refine nD_inj ?_
  rw [← Sst_nD]
  refine Sst_eq nD_simp (nD_sorted.mpr hs) fun d => ?_
  constructor
  · intro h
    obtain ⟨x, hx, rfl⟩ := List.mem_map.mp h
    exact mem_nD.mpr ((hm x).mp hx)
  · intro h
    obtain ⟨x, hx, rfl⟩ := List.mem_map.mp h
    exact mem_nD.mpr ((hm x).mpr hx)
theorem ss_ext {xs ys : List Str} (hm : ∀ d, d ∈ xs ↔ d ∈ ys) : ss xs = ss ys := ss_eq (ss_sorted _) fun d => mem_ss.trans (hm d).symm
theorem ss_nodup (xs : List Str) : (ss xs).Nodup := (ss_sorted xs).imp fun {a b} h e => by
  subst e
  exact lt_irrefl _ h
theorem ss_len {xs : List Str} : (ss xs).length ≤ xs.length := by
  have h1 : (nD (ss xs)).length = (Sst (nD xs)).length := by rw [Sst_nD]
  have h2 : (Sst (nD xs)).length = (dedup (nD xs)).length := by
    unfold Sst
    induction dedup (nD xs) with
    | nil => rfl
    | cons x r ih =>
      show (insD x (isortD r)).length = _
      rw [len_insD, ih]
      rfl
  have h3 : ∀ ds : List D, (dedup ds).length ≤ ds.length := by
    intro ds
    induction ds with
    | nil => exact Nat.le_refl _
    | cons x r ih =>
      unfold dedup
      split
      · exact Nat.le_succ_of_le ih
      · exact Nat.succ_le_succ ih
  have h4 := h3 (nD xs)
  have l1 : (nD (ss xs)).length = (ss xs).length := List.length_map _
  have l2 : (nD xs).length = xs.length := List.length_map _
  omega
where len_insD {x : D} : ∀ {xs : List D}, (insD x xs).length = xs.length + 1
  | [] => rfl
  | y :: r => by
    unfold insD
    split
    · show (insD x r).length + 1 = _
      rw [len_insD]
      rfl
    · rfl
end Pm
end
section
/-! Pd, plain laws: the evaluator on plain data. -/
namespace Pm
open PySem PyProof.Rows Pd
theorem lim_eq : lim = 16777216 := rfl
/-- a tuple, a list -/
def sq (b : Bool) (xs : List D) : D := if b then .tuple xs else .list xs
theorem itemsOf_sq (b : Bool) (xs : List D) : itemsOf (sq b xs) = some xs := by cases b <;> rfl
theorem seqOf_sq (b : Bool) (xs : List D) : seqOf (sq b xs) = some xs := by cases b <;> rfl
theorem len_sq (b : Bool) (xs : List D) : biD .len (sq b xs) = some (.int xs.length) := by cases b <;> rfl
theorem tup_sq (b : Bool) (xs : List D) : biD .tuple (sq b xs) = some (.tuple xs) := by cases b <;> rfl
theorem idx_sq (b : Bool) (xs : List D) (i : Int) : idxD (sq b xs) (.int i) = L2.atI xs i := by cases b <;> rfl
theorem isi_sq (b : Bool) (xs : List D) : tyOf (sq b xs) .list = !b ∧ tyOf (sq b xs) .tuple = b := by cases b <;> exact ⟨rfl, rfl⟩
theorem tyL (b : Bool) (xs : List D) : tyOf (sq b xs) .list = !b := by cases b <;> rfl
theorem tyT (b : Bool) (xs : List D) : tyOf (sq b xs) .tuple = b := by cases b <;> rfl
theorem at0 (a : D) (r : List D) : L2.atI (a :: r) 0 = some a := L2.atI_nat (j := 0) rfl
theorem at1 (a b : D) (r : List D) : L2.atI (a :: b :: r) 1 = some b := L2.atI_nat (j := 1) rfl
theorem at2 (a b c : D) (r : List D) : L2.atI (a :: b :: c :: r) 2 = some c := L2.atI_nat (j := 2) rfl
/-! ### shapes -/
theorem shp_str {x : Str} (h : PyData.strOk x = true) : shp (.str x) = true := by
  unfold shp SeqAt.shaped
  simp [PyData.canLay0, PyData.depth, h]
theorem lay_nD {xs : List Str} (h : ∀ x ∈ xs, PyData.strOk x = true) : PyData.canLayAll0 (nD xs) = true ∧ PyData.depthAll (nD xs) = 0 := by
  induction xs with
  | nil => exact ⟨rfl, rfl⟩
  | cons x r ih =>
    obtain ⟨h1, h2⟩ := ih fun y hy => h y (List.mem_cons_of_mem _ hy)
    have hx := h x List.mem_cons_self
    constructor
    · show (PyData.canLay0 (.str x) && PyData.canLayAll0 (nD r)) = true
      rw [h1]
      simp [PyData.canLay0, hx]
    · show max (PyData.depth (.str x)) (PyData.depthAll (nD r)) = 0
      rw [h2]
      rfl
theorem shp_sq {b : Bool} {xs : List Str} (h : ∀ x ∈ xs, PyData.strOk x = true) : shp (sq b (nD xs)) = true := by
  obtain ⟨h1, h2⟩ := lay_nD h
  unfold shp SeqAt.shaped
  cases b <;> simp [sq, PyData.canLay0, PyData.depth, h1, h2]
theorem eqv_str (x y : Str) : PyData.eqv (.str x) (.str y) = decide (x = y) := by
  by_cases h : x = y
  · subst h
    simp [PyData.eqv]
  · simp [PyData.eqv, h]
theorem any_nD (x : Str) (xs : List Str) : (nD xs).any (fun z => PyData.eqv z (.str x)) = decide (x ∈ xs) := by
  induction xs with
  | nil => rfl
  | cons y r ih =>
    show (PyData.eqv (.str y) (.str x) || (nD r).any _) = _
    rw [ih, eqv_str]
    by_cases h : y = x
    · subst h
      simp
    · have : ¬ x = y := fun e => h e.symm
      simp [h, this]
theorem inD_sq {b : Bool} {x : Str} {xs : List Str} (hx : PyData.strOk x = true) (h : ∀ x ∈ xs, PyData.strOk x = true) : inD (.str x) (sq b (nD xs)) = some (decide (x ∈ xs)) := by
  have h1 := shp_str hx
  have h2 := shp_sq (b := b) h
  cases b
  · show (if shp (.str x) && shp (.list (nD xs)) then some ((nD xs).any _) else none) = _
    rw [h1, show shp (.list (nD xs)) = true from h2]
    simp [any_nD]
  · show (if shp (.str x) && shp (.tuple (nD xs)) then some ((nD xs).any _) else none) = _
    rw [h1, show shp (.tuple (nD xs)) = true from h2]
    simp [any_nD]
theorem all_str (xs : List Str) : allStr (nD xs) = true := by
  unfold allStr
  rw [List.all_eq_true]
  intro d hd
  obtain ⟨x, _, rfl⟩ := List.mem_map.mp hd
  rfl
theorem all_shp {xs : List Str} (h : ∀ x ∈ xs, PyData.strOk x = true) : (nD xs).all shp = true := by
  rw [List.all_eq_true]
  intro d hd
  obtain ⟨x, hx, rfl⟩ := List.mem_map.mp hd
  exact shp_str (h x hx)
theorem ssetD_sq {b : Bool} {xs : List Str} (h : ∀ x ∈ xs, PyData.strOk x = true) (hl : xs.length < 4000) : ssetD (sq b (nD xs)) = some (.list (nD (ss xs))) := by
  unfold ssetD
  rw [seqOf_sq]
  show (if ((allStr (nD xs) || allInt (nD xs)) && decide ((nD xs).length < 4000) && (nD xs).all shp) = true then some (PyData.list (isortD (dedup (nD xs)))) else none) = _
  rw [all_str, all_shp h, if_pos (by simp [nD, hl])]
  exact congrArg (fun z => some (PyData.list z)) (Sst_nD xs)
/-- sorted, none twice -/
theorem sortD_nD {xs : List Str} (h : ∀ x ∈ xs, PyData.strOk x = true) (hn : xs.Nodup) : sortD (nD xs) = some (nD (ss xs)) := by
  unfold sortD
  have a1 : alikeB (nD xs) = true := by
    unfold alikeB
    rw [List.all_eq_true]
    intro d hd
    rw [List.all_eq_true]
    intro e he
    obtain ⟨x, _, rfl⟩ := List.mem_map.mp hd
    obtain ⟨y, _, rfl⟩ := List.mem_map.mp he
    simp [W.alike]
  have a2 : kindsB (nD xs) = true := by
    unfold kindsB
    rw [Bool.or_eq_true]
    right
    rw [List.all_eq_true]
    intro d hd
    obtain ⟨x, _, rfl⟩ := List.mem_map.mp hd
    rfl
  rw [a1, a2, all_shp h]
  have nn : (nD xs).Nodup := List.pairwise_map.mpr (hn.imp fun {a b} h e => h (by cases e; rfl))
  have : isortD (nD xs) = Sst (nD xs) := sorted_unique (isortD_sorted nD_simp nn) (Sst_sorted nD_simp) fun d => mem_isortD.trans (mem_Sst nD_simp d).symm
  simp [this, Sst_nD]
theorem biS {b : Bool} {xs : List Str} (h : ∀ x ∈ xs, PyData.strOk x = true) (hn : xs.Nodup) : biD .sorted (sq b (nD xs)) = some (.list (nD (ss xs))) := by
  cases b
  · show (sortD (nD xs)).map PyData.list = _
    rw [sortD_nD h hn]
    rfl
  · show (sortD (nD xs)).map PyData.list = _
    rw [sortD_nD h hn]
    rfl
/-! ### loops of a comprehension -/
theorem bind_ok {α γ : Type} {m : M α} {f : α → M γ} {s s' : Bx} {a : α} (h : m s = .ok a s') : M.bind m f s = f a s' := by
  unfold M.bind
  rw [h]
theorem collect_ok {α : Type} {f : D → M (Option D)} {g : α → D} {h : α → Option D} {s : Bx} : ∀ {xs : List α}, (∀ x ∈ xs, f (g x) s = .ok (h x) s) → collect f (xs.map g) s = .ok (xs.filterMap h) s
  | [], _ => rfl
  | x :: r, H => by
    have ih := collect_ok (f := f) (g := g) (h := h) (s := s) (xs := r) fun y hy => H y (List.mem_cons_of_mem _ hy)
    show M.bind (f (g x)) (fun y => .bind (collect f (r.map g)) fun ys => .pure (match y with
      | some d => d :: ys
      | none => ys)) s = _
    rw [bind_ok (H x List.mem_cons_self), bind_ok ih]
    cases e : h x <;> simp [M.pure, e]
theorem collect2_ok {α : Type} {f : D → M (List D)} {g : α → D} {h : α → List D} {s : Bx} : ∀ {xs : List α}, (∀ x ∈ xs, f (g x) s = .ok (h x) s) → collect2 f (xs.map g) s = .ok (xs.flatMap h) s
  | [], _ => rfl
  | x :: r, H => by
    have ih := collect2_ok (f := f) (g := g) (h := h) (s := s) (xs := r) fun y hy => H y (List.mem_cons_of_mem _ hy)
    show M.bind (f (g x)) (fun y => .bind (collect2 f (r.map g)) fun ys => .pure (y ++ ys)) s = _
    rw [bind_ok (H x List.mem_cons_self), bind_ok ih]
    simp [M.pure]
theorem collectK_ok {α : Type} {f : D → M (Option (D × D))} {g : α → D} {h : α → Option (D × D)} {s : Bx} : ∀ {xs : List α}, (∀ x ∈ xs, f (g x) s = .ok (h x) s) → collectK f (xs.map g) s = .ok (xs.filterMap h) s
  | [], _ => rfl
  | x :: r, H => by
    have ih := collectK_ok (f := f) (g := g) (h := h) (s := s) (xs := r) fun y hy => H y (List.mem_cons_of_mem _ hy)
    show M.bind (f (g x)) (fun y => .bind (collectK f (r.map g)) fun ys => .pure (match y with
      | some d => d :: ys
      | none => ys)) s = _
    rw [bind_ok (H x List.mem_cons_self), bind_ok ih]
    cases e : h x <;> simp [M.pure, e]
theorem filterMap_if {α γ : Type} (p : α → Prop) [DecidablePred p] (g : α → γ) (xs : List α) : (xs.filterMap fun x => if p x then some (g x) else none) = (xs.filter fun x => decide (p x)).map g := by
  induction xs with
  | nil => rfl
  | cons x r ih =>
    by_cases h : p x
    · simp [h, ih]
    · simp [h, ih]
end Pm
end
section
/-! Pd, plain laws: the evaluator, step by step, at a state. -/
namespace Pm
open PySem PyProof.Rows Pd
theorem bind_eq {α γ : Type} (m : M α) (f : α → M γ) (s : Bx) : M.bind m f s = (match m s with
  | .bad => .bad
  | .ok a s' => f a s'
  | .exc c p s' => .exc c p s') := rfl
theorem lft_eq {α : Type} (ρ : Pd.Env) (m : M α) (k : α → SM) (s : Bx) : lft ρ m k s = (match m s with
  | .bad => .bad
  | .ok a s' => k a s'
  | .exc c p s' => .exc c p ρ s') := rfl
theorem tr_eq (m : M D) (s : Bx) : trM m s = (match m s with
  | .bad => .bad
  | .ok a s' => M.ofOpt (truth a) s'
  | .exc c p s' => .exc c p s') := by
  unfold trM
  rw [bind_eq]
  cases m s <;> rfl
theorem seq_eq (m : SM) (k : Pd.Env → SM) (s : Bx) : SM.seq m k s = (match m s with
  | .bad => .bad
  | .exc c p ρ s' => .exc c p ρ s'
  | .go .nx ρ s' => k ρ s'
  | .go (.ret d) ρ s' => .go (.ret d) ρ s'
  | .go .brk ρ s' => .go .brk ρ s'
  | .go .ct ρ s' => .go .ct ρ s') := rfl
theorem turn_eq (m : SM) (k : Pd.Env → SM) (s : Bx) : SM.turn m k s = (match m s with
  | .bad => .bad
  | .exc c p ρ s' => .exc c p ρ s'
  | .go .nx ρ s' => k ρ s'
  | .go .ct ρ s' => k ρ s'
  | .go .brk ρ s' => .go .nx ρ s'
  | .go (.ret d) ρ s' => .go (.ret d) ρ s') := rfl
theorem quiet_eq {α : Type} (m : M α) (s : Bx) : M.quiet m s = (match m s with
  | .bad => .bad
  | .ok a s' => .ok a s'
  | .exc _ _ _ => .bad) := rfl
theorem pure_eq {α : Type} (a : α) (s : Bx) : M.pure a s = .ok a s := rfl
theorem go_eq (f : Fl) (ρ : Pd.Env) (s : Bx) : SM.go f ρ s = .go f ρ s := rfl
theorem some_eq {α : Type} (a : α) (s : Bx) : M.ofOpt (some a) s = .ok a s := rfl
theorem none_eq {α : Type} (s : Bx) : M.ofOpt (none : Option α) s = .bad := rfl
theorem run_eq (Φ : Nat → Fn) (C : List D) (n p : Nat) (b : Stas) (vs : List Val) (s : Bx) : runFn Φ C n p b vs s = (if vs.length = p then (match exB Φ C b (startE n vs) s with
  | .go (.ret d) _ s' => .ok d s'
  | .go .nx _ s' => .ok .none s'
  | .exc c q _ s' => .exc c q s'
  | _ => .bad) else .bad) := rfl
theorem noLk_eq (m : M D) (s : Bx) : noLk m s = (match m s with
  | .bad => .bad
  | .ok d s' => if noL d then .ok d s' else .bad
  | .exc c p s' => if (p.map noL).getD true then .exc c p s' else .bad) := rfl
theorem noL_nD : ∀ xs : List Str, noL.noLs (nD xs) = true
  | [] => rfl
  | x :: r => by
    show (noL (.str x) && noL.noLs (nD r)) = true
    rw [noL_nD r]
    rfl
theorem noL_tup (xs : List Str) : noL (.tuple (nD xs)) = true := noL_nD xs
theorem ite_M {α : Type} (c : Prop) [Decidable c] (m k : M α) (s : Bx) : (if c then m else k) s = if c then m s else k s := by split <;> rfl
theorem ite_S (c : Prop) [Decidable c] (m k : SM) (s : Bx) : (if c then m else k) s = if c then m s else k s := by split <;> rfl
theorem nD_app (xs ys : List Str) : nD xs ++ nD ys = nD (xs ++ ys) := List.map_append.symm
theorem nD_len (xs : List Str) : (nD xs).length = xs.length := List.length_map _
section
variable {Φ : Nat → Fn} {C : List D} {α : Type} {ρ : Pd.Env} {s s1 s2 : Bx} {it : It} {c : Eo} {elt : Ex} {own own1 : List Nat} {tg tg1 : Tg}
theorem ev_comp {ds : List D} {ys : List D} (hi : evIt Φ C it ρ s = .ok ds s1) (ho : anyOwn ρ own = false)
    (hc : collect (turnF tg own (fun ρ' => evc Φ C c ρ') (fun ρ' => ev Φ C elt ρ') (fun ρ' => isOwn ρ' elt) ρ) ds s1 = .ok ys s2) (hl : ys.length ≤ 16777216) : ev Φ C (.comp elt own tg it c) ρ s = .ok (.list ys) s2 := by
  rw [ev]
  rw [bind_ok hi, ho]
  show M.bind (M.quiet _) ckLim s1 = _
  rw [bind_eq, quiet_eq, hc]
  show ckLim ys s2 = _
  rw [ckLim, if_pos (by rw [lim_eq]; exact hl)]
  rfl
theorem comp_ok {xs : List α} {g' : α → D} {h : α → Option D} (hi : evIt Φ C it ρ s = .ok (xs.map g') s1) (ho : anyOwn ρ own = false)
    (hc : ∀ x ∈ xs, turnF tg own (fun ρ' => evc Φ C c ρ') (fun ρ' => ev Φ C elt ρ') (fun ρ' => isOwn ρ' elt) ρ (g' x) s1 = .ok (h x) s1) (hl : xs.length ≤ 16777216) : ev Φ C (.comp elt own tg it c) ρ s = .ok (.list (xs.filterMap h)) s1 :=
  ev_comp hi ho (collect_ok hc) (Nat.le_trans (List.length_filterMap_le _ _) hl)
/-- no condition -/
theorem comp_map {xs : List α} {g' h : α → D} (hi : evIt Φ C it ρ s = .ok (xs.map g') s1) (ho : anyOwn ρ own = false)
    (hc : ∀ x ∈ xs, turnF tg own (fun ρ' => evc Φ C c ρ') (fun ρ' => ev Φ C elt ρ') (fun ρ' => isOwn ρ' elt) ρ (g' x) s1 = .ok (some (h x)) s1) (hl : xs.length ≤ 16777216) : ev Φ C (.comp elt own tg it c) ρ s = .ok (.list (xs.map h)) s1 := by
  rw [comp_ok (h := fun x => some (h x)) hi ho hc hl, List.filterMap_eq_map']
theorem comp_if {xs : List α} {g' h : α → D} {p : α → Prop} [DecidablePred p] (hi : evIt Φ C it ρ s = .ok (xs.map g') s1) (ho : anyOwn ρ own = false)
    (hc : ∀ x ∈ xs, turnF tg own (fun ρ' => evc Φ C c ρ') (fun ρ' => ev Φ C elt ρ') (fun ρ' => isOwn ρ' elt) ρ (g' x) s1 = .ok (if p x then some (h x) else none) s1) (hl : xs.length ≤ 16777216) : ev Φ C (.comp elt own tg it c) ρ s = .ok (.list ((xs.filter fun x => decide (p x)).map h)) s1 := by
  rw [comp_ok (h := fun x => if p x then some (h x) else none) hi ho hc hl, filterMap_if]
theorem comp2_ok {it1 : It} {c1 : Eo} {xs : List α} {g' : α → D} {h : α → List D} (hi : evIt Φ C it ρ s = .ok (xs.map g') s1) (ho : anyOwn ρ own = false)
    (hc : ∀ x ∈ xs, turnF2 tg own (fun ρ' => evc Φ C c ρ') (fun ρ' => itOwn ρ' it1) (fun ρ' => evIt Φ C it1 ρ') tg1 own1 (fun ρ' => evc Φ C c1 ρ') (fun ρ' => ev Φ C elt ρ') (fun ρ' => isOwn ρ' elt) ρ (g' x) s1 = .ok (h x) s1) (hl : (xs.flatMap h).length ≤ 16777216) :
    ev Φ C (.comp2 elt own own1 tg it c tg1 it1 c1) ρ s = .ok (.list (xs.flatMap h)) s1 := by
  rw [ev]
  rw [bind_ok hi, ho]
  show M.bind (M.quiet _) ckLim s1 = _
  rw [bind_eq, quiet_eq, collect2_ok hc]
  show ckLim _ s1 = _
  rw [ckLim, if_pos (by rw [lim_eq]; exact hl)]
  rfl
end
end Pm
namespace Pm
open PySem PyProof.Rows Pd
section
variable {Φ : Nat → Fn} {C : List D} {α : Type} {ρ : Pd.Env} {s s1 s2 : Bx} {it : It} {c : Eo} {own : List Nat} {tg : Tg} {ek evv : Ex}
theorem dcomp_map {xs : List α} {g' : α → D} {h : α → D × D} (hi : evIt Φ C it ρ s = .ok (xs.map g') s1) (ho : anyOwn ρ own = false)
    (hc : ∀ x ∈ xs, turnK tg own (fun ρ' => evc Φ C c ρ') (fun ρ' => ev Φ C ek ρ') (fun ρ' => ev Φ C evv ρ') (fun ρ' => isOwn ρ' evv) ρ (g' x) s1 = .ok (some (h x)) s1) (hl : xs.length ≤ 16777216)
    (hn : ((xs.map h).map fun p => match p.1 with
        | .str u => u.cps.toList
        | _ => []).Nodup) : ev Φ C (.dcomp ek evv own tg it c) ρ s = .ok (.dict (xs.map h)) s1 := by
  rw [ev]
  rw [bind_ok hi, ho]
  show M.bind (M.quiet _) ckDic s1 = _
  rw [bind_eq, quiet_eq, collectK_ok hc, List.filterMap_eq_map']
  show ckDic _ s1 = _
  rw [ckDic, if_pos (by rw [lim_eq, List.length_map]; simp only [Bool.and_eq_true, decide_eq_true_eq]; exact ⟨hl, hn⟩)]
  rfl
end
theorem lookS_map {x : Str} {f : Str → D} : ∀ {xs : List Str}, x ∈ xs → lookS x (xs.map fun y => (PyData.str y, f y)) = some (f x)
  | y :: r, h => by
    show (if y = x then some (f y) else lookS x (r.map fun y => (PyData.str y, f y))) = _
    by_cases e : y = x
    · rw [if_pos e, e]
    · rw [if_neg e]
      exact lookS_map ((List.mem_cons.mp h).resolve_left fun z => e z.symm)
theorem flat_len {α γ : Type} {f : α → List γ} {k : Nat} : ∀ {xs : List α}, (∀ x ∈ xs, (f x).length ≤ k) → (xs.flatMap f).length ≤ xs.length * k
  | [], _ => by simp
  | x :: r, h => by
    have h1 := h x List.mem_cons_self
    have h2 := flat_len (f := f) (k := k) (xs := r) fun y hy => h y (List.mem_cons_of_mem _ hy)
    rw [List.flatMap_cons, List.length_append, List.length_cons, Nat.add_mul]
    omega
theorem nodup_len : ∀ {xs ys : List Str}, xs.Nodup → (∀ x ∈ xs, x ∈ ys) → xs.length ≤ ys.length
  | [], _, _, _ => Nat.zero_le _
  | x :: r, ys, hn, hs => by
    have hx := hs x List.mem_cons_self
    obtain ⟨h1, h2⟩ := List.nodup_cons.mp hn
    have := nodup_len (xs := r) (ys := ys.erase x) h2 fun y hy => by
      have ne : y ≠ x := fun e => h1 (e ▸ hy)
      exact (List.mem_erase_of_ne ne).mpr (hs y (List.mem_cons_of_mem _ hy))
    rw [List.length_erase_of_mem hx] at this
    have : 0 < ys.length := List.length_pos_of_mem hx
    rw [List.length_cons]
    omega
theorem cps_nodup {xs : List Str} (h : xs.Nodup) : (xs.map fun y => y.cps.toList).Nodup := List.pairwise_map.mpr (h.imp fun {a b} n e => n (str_ext (Array.toList_inj.mp e)))
theorem ss_filter {xs : List Str} {p : Str → Bool} : (ss xs).filter p = ss (xs.filter p) := (ss_eq ((ss_sorted xs).filter p) fun d => by simp [mem_ss]).symm
theorem ss_self {xs : List Str} (hs : xs.Pairwise ltS) : ss xs = xs := ss_eq hs fun _ => Iff.rfl
theorem enumD_map {α : Type} {g : α → D} : ∀ {xs : List α} {k : Nat}, enumD k (xs.map g) = (xs.zipIdx k).map fun p => .tuple [.int p.2, g p.1]
  | [], _ => rfl
  | x :: r, k => by
    have := enumD_map (g := g) (xs := r) (k := k + 1)
    show PyData.tuple [.int k, g x] :: enumD ((k : Int) + 1) (r.map g) = _
    rw [List.zipIdx_cons, List.map_cons, ← this]
    rfl
end Pm
end
section
/-! Pd, plain laws: cuts, draws, the box. -/
namespace Pm
open PySem PyProof.Rows Pd
theorem cut_to {α : Type} (xs : List α) (k : Nat) : cutL xs none (some (k : Int)) = xs.take k := by
  unfold cutL
  rw [HT.sIx_none, HT.sIx_nat, List.drop_zero, Nat.sub_zero]
  by_cases h : k ≤ xs.length
  · rw [Nat.min_eq_left h]
  · rw [Nat.min_eq_right (by omega), List.take_length, List.take_of_length_le (by omega)]
theorem cut_map {α γ : Type} (g : α → γ) (xs : List α) (lo hi : Option Int) : cutL (xs.map g) lo hi = (cutL xs lo hi).map g := by
  unfold cutL
  rw [List.length_map, List.map_take, List.map_drop]
theorem cut_len {α : Type} (xs : List α) (lo hi : Option Int) : (cutL xs lo hi).length ≤ xs.length := by
  unfold cutL
  rw [List.length_take, List.length_drop]
  omega
theorem cut_from {α : Type} (xs : List α) (k : Nat) (hi : Option Int) (h : xs.length ≤ k) : cutL xs (some (k : Int)) hi = [] := by
  unfold cutL
  rw [HT.sIx_nat, Nat.min_eq_right h, List.drop_length, List.take_nil]
/-- what a draw may keep -/
def Gd (K : Nat) (s : Bx) : Prop := 0 ≤ s.a ∧ 0 ≤ s.c ∧ s.c ≤ K
theorem Gd.mono {K K' : Nat} {s : Bx} (g : Gd K s) (l : K ≤ K') : Gd K' s := ⟨g.1, g.2.1, by have := g.2.2; omega⟩
def drw (b c : Int) : Int := ((((b + 48271 * c) * (39373 + c)) % 2147483647 + c + b / 1000003) * (((b + 48271 * c) * (39373 + c)) % 2147483647 % 40009 + 7) % 2147483629 * 48271 + ((b + 48271 * c) * (39373 + c)) % 2147483647) % 2147483587 / 64
theorem sm_of {i : Int} (h1 : -1000000000000 < i) (h2 : i < 1000000000000) : small i = true := by
  unfold small
  rw [Bool.and_eq_true, decide_eq_true_eq, decide_eq_true_eq]
  constructor <;> omega
/-- a draw: under n, at least 0 -/
def Take (F : Fn) : Prop := ∀ (n : Int), 0 < n → n < 1000000 → ∀ (K : Nat) (s : Bx), Gd K s → K ≤ 1000000000 → ∃ v s', F [.box, .dat (.int n)] s = .ok (.int v) s' ∧ 0 ≤ v ∧ v < n ∧ Gd (K + 1) s'
/-- items are kept by draws -/
theorem collect_draw {α : Type} {f : D → M (Option D)} {g h : α → D} {B : Nat} : ∀ {xs : List α}, (∀ x ∈ xs, ∀ (K : Nat) (s : Bx), Gd K s → K ≤ B → ∃ (k : Bool) (s' : Bx), f (g x) s = .ok (if k then some (h x) else none) s' ∧ Gd (K + 1) s') → ∀ (K : Nat) (s : Bx), Gd K s → K + xs.length ≤ B →
    ∃ ys s', List.Sublist ys xs ∧ collect f (xs.map g) s = .ok (ys.map h) s' ∧ Gd (K + xs.length) s'
  | [], _, K, s, gs, _ => ⟨[], s, .slnil, rfl, gs⟩
  | x :: r, H, K, s, gs, hK => by
    rw [List.length_cons] at hK
    obtain ⟨k, s1, h1, g1⟩ := H x List.mem_cons_self K s gs (by omega)
    obtain ⟨ys, s2, h2, h3, g2⟩ := collect_draw (xs := r) (fun y hy => H y (List.mem_cons_of_mem _ hy)) (K + 1) s1 g1 (by omega)
    have e : collect f ((x :: r).map g) s = .ok (match (if k then some (h x) else none : Option D) with
      | some d => d :: ys.map h
      | none => ys.map h) s2 := by
      show M.bind (f (g x)) (fun y => .bind (collect f (r.map g)) fun ys => .pure (match y with
      | some d => d :: ys
      | none => ys)) s = _
      rw [bind_ok h1, bind_ok h3]
      rfl
    have g3 : Gd (K + (x :: r).length) s2 := g2.mono (by rw [List.length_cons]; omega)
    cases k with
    | true => exact ⟨x :: ys, s2, h2.cons_cons x, e, g3⟩
    | false => exact ⟨ys, s2, h2.cons x, e, g3⟩
theorem eq_nil {xs : List Str} (h : ∀ x ∈ xs, PyData.strOk x = true) : eqD (.list (nD xs)) (.list []) = some (decide (xs = [])) := by
  have h1 : shp (.list (nD xs)) = true := shp_sq (b := false) h
  have h2 : shp (.list []) = true := rfl
  show (if shp (.list (nD xs)) && shp (.list []) then some (PyData.eqv (.list (nD xs)) (.list [])) else none) = _
  rw [h1, h2]
  cases xs with
  | nil => rfl
  | cons x r => rfl
theorem box_new {kz : Int} {zs : List Int} {k : Nat} (hk : k < zs.length) : ∃ b, boxF kz (.list (zs.map .int)) (.int k) = some b ∧ Gd 0 b := by
  have e : (zs.map PyData.int)[k]? = some (.int zs[k]) := by
    rw [List.getElem?_map, List.getElem?_eq_getElem hk]
    rfl
  have h1 : (0 : Int) ≤ (k : Int) := Int.natCast_nonneg k
  have h2 : ((k : Int) < ((zs.map PyData.int).length : Nat)) := by
    rw [List.length_map]
    omega
  generalize zs[k] = c at e
  refine ⟨⟨(if c < 0 then -c else c) * (if (if c < 0 then -c else c) ≥ 10 ^ 18 then 1 else 0), c % 2305843009213693951 + 39373 * k + kz, 0⟩, ?_, ?_, Int.le_refl 0, Int.le_refl 0⟩
  · unfold boxF
    simp only [h1, h2, if_true, Int.toNat_natCast, e]
  · dsimp only
    exact Int.mul_nonneg (by split <;> omega) (by split <;> split <;> decide)
theorem place_nat {n j : Nat} (hj : j < n) : place n (j : Int) = some j := by
  unfold place L2.ixN
  rw [if_pos (Int.natCast_nonneg j), if_pos (by omega)]
  rfl
theorem inR_of {i : Int} (h1 : -1000000000000 < i) (h2 : i < 1000000000000) : Pd.inR i = true := by
  unfold Pd.inR
  rw [Bool.and_eq_true, decide_eq_true_eq, decide_eq_true_eq]
  constructor <;> omega
theorem rng_to {n : Nat} (h : n < 1000000000) : rngD (.int 0) (.int (n : Int)) = some (rangeD 0 n) := by
  have e : rngD (.int 0) (.int (n : Int)) = if Pd.inR 0 && Pd.inR (n : Int) then some (rangeD 0 ((n : Int) - 0).toNat) else none := rfl
  rw [e, inR_of (by omega) (by omega), inR_of (by omega) (by omega), Int.sub_zero, Int.toNat_natCast]
  rfl
theorem ev_rng1 {Φ : Nat → Fn} {C : List D} {ρ : Pd.Env} {s s1 : Bx} {a : Ex} {n : Nat} (h : ev Φ C a ρ s = .ok (.int (n : Int)) s1) (hn : n < 1000000000) : evIt Φ C (.rng1 a) ρ s = .ok (rangeD 0 n) s1 := by
  rw [evIt, bind_ok h, rng_to hn]
  rfl
theorem ev_succ {Φ : Nat → Fn} {C : List D} {s s1 : Bx} {n : Nat} {ρ : Pd.Env} {a : Ex} (h : ev Φ C a ρ s = .ok (.int (n : Int)) s1) : ev Φ C (.bin .Add a (.lit (.int 1))) ρ s = .ok (.int ((n + 1 : Nat) : Int)) s1 := by
  have c : ((n + 1 : Nat) : Int) = (n : Int) + 1 := by omega
  rw [c]
  simp only [ev, ↓bind_eq, pure_eq, h, some_eq, binD]
section
variable {Φ : Nat → Fn} {C : List D} {ρ ρ' : Pd.Env} {s s1 s2 : Bx}
theorem exB_nx {t : Sta} {r : Stas} (h : exS Φ C t ρ s = .go .nx ρ' s1) : exB Φ C (.cons t r) ρ s = exB Φ C r ρ' s1 := by
  rw [exB, seq_eq, h]
theorem exB_ret {t : Sta} {r : Stas} {d : D} (h : exS Φ C t ρ s = .go (.ret d) ρ' s1) : exB Φ C (.cons t r) ρ s = .go (.ret d) ρ' s1 := by
  rw [exB, seq_eq, h]
theorem exS_fr {g : Tg} {it : It} {b : Stas} {xs : List D} (h1 : itOwn (freeze ρ (srcSlot it)) it = false) (h2 : evIt Φ C it (freeze ρ (srcSlot it)) s = .ok xs s1) : exS Φ C (.fr g it b) ρ s = frL g (exB Φ C b) xs (freeze ρ (srcSlot it)) s1 := by
  rw [exS, h1]
  show (if false = true then SM.bad else lft _ _ _) s = _
  rw [if_neg (by decide), lft_eq, h2]
theorem run_ret {n p : Nat} {b : Stas} {vs : List Val} {d : D} (hp : vs.length = p) (h : exB Φ C b (startE n vs) s = .go (.ret d) ρ' s1) : runFn Φ C n p b vs s = .ok d s1 := by
  rw [run_eq, if_pos hp, h]
end
theorem cat_ok {xs ys : List D} (h : xs.length + ys.length ≤ 16777216) : binD .Add (.list xs) (.list ys) = some (.list (xs ++ ys)) := by
  have e : binD .Add (.list xs) (.list ys) = (catL xs ys).map PyData.list := rfl
  rw [e, catL, if_pos (by rw [lim_eq]; exact h)]
  rfl
theorem sub_flat {x : List Str} : ∀ {xs : List (List Str)}, x ∈ xs → List.Sublist x xs.flatten
  | y :: r, h => by
    rw [List.flatten_cons]
    rcases List.mem_cons.mp h with rfl | h
    · exact List.sublist_append_left _ _
    · exact (sub_flat h).trans (List.sublist_append_right _ _)
theorem ret_bi {Φ : Nat → Fn} {C : List D} {ρ : Pd.Env} {s s1 : Bx} {b : Bi} {a : Ex} {d e : D} (h : ev Φ C a ρ s = .ok d s1) (hb : biD b d = some e) : exS Φ C (.ret (.bi b a)) ρ s = .go (.ret e) ρ s1 := by
  simp [exS, ev, isOwn, ↓ite_S, ↓lft_eq, ↓bind_eq, h, hb, some_eq, go_eq]
end Pm
end
section
/-! K02: the codes, printed by mklaw.py -/
namespace K02
open PySem Pd
def Cn : List D := []
/-- tupled -/
def N0 : List Str := ["thing", "part"]
def c0 : Stas := (.cons (.ret (.ite (.isi (.slot 0) [.list, .tuple] true) (.bi .tuple (.comp (.call 0 (.cons (.slot 1) .nil)) [1] (.nm 1) (.ex (.slot 0)) .no)) (.slot 0)))
  .nil)
/-- set_of -/
def N1 : List Str := ["row"]
def c1 : Stas := (.cons (.ret (.bi .tuple (.sset (.slot 0))))
  .nil)
/-- unlike -/
def N2 : List Str := ["some", "others", "own"]
def c2 : Stas := (.cons (.ret (.bi .tuple (.comp (.slot 2) [2] (.nm 2) (.ex (.slot 0)) (.so (.cmp .NotIn (.slot 2) (.slot 1))))))
  .nil)
/-- check_objects -/
def N3 : List Str := ["heap", "names", "name"]
def c3 : Stas := (.cons (.fr (.nm 2) (.ex (.slot 1)) (.cons (.ite (.cmp .NotIn (.slot 2) (.idx (.slot 0) (.lit (.int 0)))) (.cons (.rz 0 (.so (.slot 2)))
  .nil) .nil)
  .nil))
  .nil)
/-- pointed_from -/
def N4 : List Str := ["heap", "name", "one", "other"]
def c4 : Stas := (.cons (.ret (.dcomp (.slot 1) (.comp (.slot 3) [2, 3] (.tp [2, 3]) (.ex (.idx (.slot 0) (.lit (.int 1)))) (.so (.cmp .Eq (.slot 2) (.slot 1)))) [1] (.nm 1) (.ex (.idx (.slot 0) (.lit (.int 0)))) .no))
  .nil)
/-- rounds -/
def N5 : List Str := ["heap", "near", "found", "fresh", "seen", "one", "other"]
def c5 : Stas := (.cons (.par [(1, false), (2, true), (3, false), (4, true)] (.cons (.call 4 (.cons (.slot 0) .nil)) (.cons (.lst .nil) (.cons (.call 0 (.cons (.idx (.slot 0) (.lit (.int 2))) .nil)) (.cons (.lst .nil) .nil)))))
  (.cons (.wh (.cmp .Gt (.bi .len (.slot 3)) (.lit (.int 0))) (.cons (.app 2 (.slot 3))
  (.cons (.ext 4 (.slot 3))
  (.cons (.asg 3 (.call 2 (.cons (.call 1 (.cons (.comp2 (.slot 6) [5, 6] [6] (.nm 5) (.ex (.slot 3)) .no (.nm 6) (.ex (.idx (.slot 1) (.slot 5))) .no) .nil)) (.cons (.slot 4) .nil))))
  .nil))))
  (.cons (.ret (.bi .tuple (.slot 2)))
  .nil)))
/-- reached -/
def N6 : List Str := ["heap", "lot", "name"]
def c6 : Stas := (.cons (.ret (.call 1 (.cons (.comp2 (.slot 2) [1, 2] [2] (.nm 1) (.ex (.call 5 (.cons (.slot 0) .nil))) .no (.nm 2) (.ex (.slot 1)) .no) .nil)))
  .nil)
/-- points_to -/
def N7 : List Str := ["heap", "name"]
def c7 : Stas := (.cons (.ex (.call 3 (.cons (.slot 0) (.cons (.lst (.cons (.slot 1) .nil)) .nil))))
  (.cons (.ret (.call 1 (.cons (.idx (.call 4 (.cons (.slot 0) .nil)) (.slot 1)) .nil)))
  .nil))
/-- pointed_by -/
def N8 : List Str := ["heap", "name", "one", "other"]
def c8 : Stas := (.cons (.ex (.call 3 (.cons (.slot 0) (.cons (.lst (.cons (.slot 1) .nil)) .nil))))
  (.cons (.ret (.call 1 (.cons (.comp (.slot 2) [2, 3] (.tp [2, 3]) (.ex (.idx (.slot 0) (.lit (.int 1)))) (.so (.cmp .Eq (.slot 3) (.slot 1)))) .nil)))
  .nil))
/-- round_of -/
def N9 : List Str := ["heap", "name", "found", "number", "lot"]
def c9 : Stas := (.cons (.ex (.call 3 (.cons (.slot 0) (.cons (.lst (.cons (.slot 1) .nil)) .nil))))
  (.cons (.asg 2 (.comp (.slot 3) [3, 4] (.tp [3, 4]) (.enum (.call 5 (.cons (.slot 0) .nil))) (.so (.cmp .In (.slot 1) (.slot 4)))))
  (.cons (.ret (.ite (.cmp .Gt (.bi .len (.slot 2)) (.lit (.int 0))) (.idx (.slot 2) (.lit (.int 0))) (.lit .none)))
  .nil)))
/-- _law_box -/
def N10 : List Str := ["_law_script", "_law_k", "_law_cell"]
/-- _law_take -/
def N11 : List Str := ["_law_box_here", "_law_below_so", "_law_once", "_law_far", "_law_twice", "_law_drawn"]
def c11 : Stas := (.cons (.ite (.cmp .Gt (.bget 0 0) (.lit (.int 0))) (.cons (.asg 5 (.bin .Mod (.bi .int (.bget 0 0)) (.slot 1)))
  (.cons (.bset 0 0 (.bin .FloorDiv (.bget 0 0) (.slot 1)))
  (.cons (.ret (.slot 5))
  .nil))) .nil)
  (.cons (.bset 0 2 (.bin .Add (.bget 0 2) (.lit (.int 1))))
  (.cons (.asg 2 (.bin .Mod (.bi .int (.bin .Mult (.bin .Add (.bget 0 1) (.bin .Mult (.lit (.int 48271)) (.bget 0 2))) (.bin .Add (.lit (.int 39373)) (.bget 0 2)))) (.lit (.int 2147483647))))
  (.cons (.asg 3 (.bin .Add (.bin .Mod (.bi .int (.slot 2)) (.lit (.int 40009))) (.lit (.int 7))))
  (.cons (.asg 4 (.bin .Mod (.bi .int (.bin .Mult (.bin .Add (.bin .Add (.slot 2) (.bget 0 2)) (.bin .FloorDiv (.bget 0 1) (.lit (.int 1000003)))) (.slot 3))) (.lit (.int 2147483629))))
  (.cons (.ret (.bin .Mod (.bi .int (.bin .FloorDiv (.bin .Mod (.bi .int (.bin .Add (.bin .Mult (.slot 4) (.lit (.int 48271))) (.slot 2))) (.lit (.int 2147483587))) (.lit (.int 64)))) (.slot 1)))
  .nil))))))
/-- _law_cells -/
def N12 : List Str := ["_law_script", "_law_top_so", "_law_cells_so", "_law_k", "_law_cell", "_law_at_so"]
def c12 : Stas := (.cons (.own 2 (.disj (.cons (.bi .list (.sslc 0 .no (.so (.slot 1)))) (.cons (.lst (.cons (.lit (.int 0)) .nil)) .nil))))
  (.cons (.fr (.tp [3, 4]) (.enum (.sslc 0 (.so (.slot 1)) (.so (.lit (.int 63))))) (.cons (.asg 5 (.bin .Mod (.bi .int (.slot 3)) (.slot 1)))
  (.cons (.seti 2 (.slot 5) (.bin .Add (.idx (.slot 2) (.slot 5)) (.bin .Mult (.slot 4) (.bin .Add (.slot 3) (.lit (.int 2))))))
  .nil)))
  (.cons (.ret (.slot 2))
  .nil)))
/-- _law_same -/
def N13 : List Str := ["_law_got", "_law_due", "_law_mine", "_law_its"]
def c13 : Stas := (.cons (.ite (.isi (.slot 1) [.list, .tuple] true) (.cons (.ite (.disj (.cons (.cmp .NotEq (.isi (.slot 0) [.list] false) (.isi (.slot 1) [.list] false)) (.cons (.cmp .NotEq (.isi (.slot 0) [.tuple] false) (.isi (.slot 1) [.tuple] false)) .nil))) (.cons (.ret (.lit (.bool false)))
  .nil) .nil)
  (.cons (.ret (.conj (.cons (.cmp .Eq (.bi .len (.slot 0)) (.bi .len (.slot 1))) (.cons (.bi .all (.comp (.call 13 (.cons (.slot 2) (.cons (.slot 3) .nil))) [2, 3] (.tp [2, 3]) (.zip (.slot 0) (.slot 1)) .no)) .nil))))
  .nil)) .nil)
  (.cons (.ite (.disj (.cons (.cmp .Is (.slot 1) (.lit .none)) (.cons (.isi (.slot 1) [.bool, .str] true) .nil))) (.cons (.ret (.conj (.cons (.cmp .Eq (.slot 0) (.slot 1)) (.cons (.cmp .Eq (.isi (.slot 0) [.bool] false) (.isi (.slot 1) [.bool] false)) (.cons (.cmp .Eq (.cmp .Is (.slot 0) (.lit .none)) (.cmp .Is (.slot 1) (.lit .none))) .nil)))))
  .nil) .nil)
  (.cons (.ret (.conj (.cons (.isi (.slot 0) [.int] false) (.cons (.nt (.isi (.slot 0) [.bool] false)) (.cons (.cmp .Eq (.slot 0) (.slot 1)) .nil)))))
  .nil)))
/-- _law_lists -/
def N14 : List Str := ["_law_matter_so", "_law_bit"]
def c14 : Stas := (.cons (.ret (.ite (.isi (.slot 0) [.list, .tuple] true) (.comp (.call 14 (.cons (.slot 1) .nil)) [1] (.nm 1) (.ex (.slot 0)) .no) (.slot 0)))
  .nil)
/-- _law_heap -/
def N15 : List Str := ["_law_box_here", "_law_most_so", "_law_pool_so", "_law_tag", "_law_tags_so", "_law_pairs_so", "_law_far"]
def c15 : Stas := (.cons (.asg 2 (.slc (.lst (.cons (.lit (.str "m")) (.cons (.lit (.str "b")) (.cons (.lit (.str "mb")) (.cons (.lit (.str "f")) (.cons (.lit (.str "bm")) .nil)))))) .no (.so (.call 11 (.box 0 (.cons (.bin .Add (.slot 1) (.lit (.int 1))) .nil))))))
  (.cons (.par [(4, false), (5, false)] (.cons (.bi .tuple (.bi .sorted (.slot 2))) (.cons (.lst .nil) .nil)))
  (.cons (.fr (.nm 3) (.ex (.slot 4)) (.cons (.asg 5 (.bin .Add (.slot 5) (.comp (.tup (.cons (.slot 3) (.cons (.slot 6) .nil))) [6] (.nm 6) (.ex (.slot 4)) (.so (.conj (.cons (.cmp .NotEq (.slot 3) (.slot 6)) (.cons (.cmp .Eq (.call 11 (.box 0 (.cons (.lit (.int 3)) .nil))) (.lit (.int 0))) .nil)))))))
  .nil))
  (.cons (.ret (.tup (.cons (.slot 4) (.cons (.bi .tuple (.slot 5)) (.cons (.bi .tuple (.comp (.slot 3) [3] (.nm 3) (.ex (.slot 4)) (.so (.cmp .Eq (.call 11 (.box 0 (.cons (.lit (.int 3)) .nil))) (.lit (.int 0)))))) .nil)))))
  .nil))))
/-- _law_heard -/
def N16 : List Str := ["_law_way_so", "_law_own", "_law_tag", "error", "_law_caught", "_law_told_so"]
def c16 : Stas := (.cons (.par [(4, false), (5, false)] (.cons (.lit .none) (.cons (.lit .none) .nil)))
  (.cons (.tr (.cons (.ite (.cmp .Eq (.slot 0) (.lit (.int 0))) (.cons (.asg 5 (.call 7 (.cons (.slot 1) (.cons (.slot 2) .nil))))
  .nil) (.cons (.asg 5 (.ite (.cmp .Eq (.slot 0) (.lit (.int 1))) (.call 8 (.cons (.slot 1) (.cons (.slot 2) .nil))) (.call 9 (.cons (.slot 1) (.cons (.slot 2) .nil)))))
  .nil))
  .nil) [(0, 3, .asg 4 (.lst [(.lit (.str "object")), .fld, (.isi true)]))])
  (.cons (.ret (.ite (.cmp .Is (.slot 4) (.lit .none)) (.slot 5) (.slot 4)))
  .nil)))
/-- _law_laps -/
def N17 : List Str := ["_law_own", "_law_lap", "_law_found", "_law_seen_so", "_law_fresh_so", "_law_later", "_law_pair_so"]
def c17 : Stas := (.cons (.par [(2, true), (3, false), (4, false)] (.cons (.lst .nil) (.cons (.lst .nil) (.cons (.bi .sorted (.idx (.slot 0) (.lit (.int 2)))) .nil))))
  (.cons (.fr (.nm 1) (.rng1 (.bin .Add (.bi .len (.idx (.slot 0) (.lit (.int 0)))) (.lit (.int 1)))) (.cons (.ite (.cmp .NotEq (.slot 4) (.lst .nil)) (.cons (.app 2 (.bi .tuple (.slot 4)))
  .nil) .nil)
  (.cons (.asg 3 (.bin .Add (.slot 3) (.slot 4)))
  (.cons (.asg 5 (.comp (.idx (.slot 6) (.lit (.int 1))) [6] (.nm 6) (.ex (.idx (.slot 0) (.lit (.int 1)))) (.so (.conj (.cons (.cmp .In (.idx (.slot 6) (.lit (.int 0))) (.slot 4)) (.cons (.cmp .NotIn (.idx (.slot 6) (.lit (.int 1))) (.slot 3)) .nil))))))
  (.cons (.asg 4 (.sset (.slot 5)))
  .nil)))))
  (.cons (.ret (.bi .tuple (.slot 2)))
  .nil)))
/-- _law_by_hand_right -/
def N18 : List Str := ["_law_mine", "_law_got", "_law_due", "_law_ring_so", "_law_pairs_so", "_law_far_so", "_law_mixed_so", "_law_soft", "_law_none_so", "_law_bare_so", "_law_tag"]
def c18 : Stas := (.cons (.asg 0 (.tup (.cons (.tup (.cons (.lit (.str "a")) (.cons (.lit (.str "b")) (.cons (.lit (.str "c")) (.cons (.lit (.str "d")) (.cons (.lit (.str "e")) (.cons (.lit (.str "r")) .nil))))))) (.cons (.tup (.cons (.tup (.cons (.lit (.str "a")) (.cons (.lit (.str "c")) .nil))) (.cons (.tup (.cons (.lit (.str "b")) (.cons (.lit (.str "d")) .nil))) (.cons (.tup (.cons (.lit (.str "e")) (.cons (.lit (.str "a")) .nil))) (.cons (.tup (.cons (.lit (.str "r")) (.cons (.lit (.str "a")) .nil))) (.cons (.tup (.cons (.lit (.str "r")) (.cons (.lit (.str "b")) .nil))) .nil)))))) (.cons (.tup (.cons (.lit (.str "r")) .nil)) .nil)))))
  (.cons (.own 1 (.lst (.cons (.call 6 (.cons (.slot 0) .nil)) (.cons (.call 5 (.cons (.slot 0) .nil)) (.cons (.comp (.call 16 (.cons (.lit (.int 2)) (.cons (.slot 0) (.cons (.slot 10) .nil)))) [10] (.nm 10) (.ex (.tup (.cons (.lit (.str "r")) (.cons (.lit (.str "a")) (.cons (.lit (.str "d")) (.cons (.lit (.str "e")) (.cons (.lit (.str "q")) (.cons (.lit (.str "")) .nil)))))))) .no) .nil)))))
  (.cons (.own 2 (.lst (.cons (.tup (.cons (.lit (.str "a")) (.cons (.lit (.str "b")) (.cons (.lit (.str "c")) (.cons (.lit (.str "d")) (.cons (.lit (.str "r")) .nil)))))) (.cons (.tup (.cons (.tup (.cons (.lit (.str "r")) .nil)) (.cons (.tup (.cons (.lit (.str "a")) (.cons (.lit (.str "b")) .nil))) (.cons (.tup (.cons (.lit (.str "c")) (.cons (.lit (.str "d")) .nil))) .nil)))) .nil))))
  (.cons (.app 2 (.lst (.cons (.lit (.int 0)) (.cons (.lit (.int 1)) (.cons (.lit (.int 2)) (.cons (.lit .none) (.cons (.lst (.cons (.lit (.str "object")) (.cons (.lit (.str "q")) (.cons (.lit (.bool true)) .nil)))) (.cons (.lst (.cons (.lit (.str "object")) (.cons (.lit (.str "")) (.cons (.lit (.bool true)) .nil)))) .nil))))))))
  (.cons (.own 1 (.bin .Add (.slot 1) (.lst (.cons (.comp (.call 16 (.cons (.lit (.int 0)) (.cons (.slot 0) (.cons (.slot 10) .nil)))) [10] (.nm 10) (.ex (.tup (.cons (.lit (.str "r")) (.cons (.lit (.str "c")) (.cons (.lit (.str "e")) (.cons (.lit (.str "x")) .nil)))))) .no) .nil))))
  (.cons (.app 1 (.comp (.call 16 (.cons (.lit (.int 1)) (.cons (.slot 0) (.cons (.slot 10) .nil)))) [10] (.nm 10) (.ex (.tup (.cons (.lit (.str "a")) (.cons (.lit (.str "r")) (.cons (.lit (.str "z")) .nil))))) .no))
  (.cons (.own 2 (.bin .Add (.slot 2) (.lst (.cons (.lst (.cons (.tup (.cons (.lit (.str "a")) (.cons (.lit (.str "b")) .nil))) (.cons (.tup .nil) (.cons (.tup (.cons (.lit (.str "a")) .nil)) (.cons (.lst (.cons (.lit (.str "object")) (.cons (.lit (.str "x")) (.cons (.lit (.bool true)) .nil)))) .nil))))) (.cons (.lst (.cons (.tup (.cons (.lit (.str "e")) (.cons (.lit (.str "r")) .nil))) (.cons (.tup .nil) (.cons (.lst (.cons (.lit (.str "object")) (.cons (.lit (.str "z")) (.cons (.lit (.bool true)) .nil)))) .nil)))) .nil)))))
  (.cons (.par [(8, false), (9, false)] (.cons (.tup (.cons (.idx (.slot 0) (.lit (.int 0))) (.cons (.idx (.slot 0) (.lit (.int 1))) (.cons (.tup .nil) .nil)))) (.cons (.tup (.cons (.tup .nil) (.cons (.tup .nil) (.cons (.tup .nil) .nil)))) .nil)))
  (.cons (.asg 3 (.tup (.cons (.tup (.cons (.lit (.str "a")) (.cons (.lit (.str "b")) (.cons (.lit (.str "c")) (.cons (.lit (.str "z")) .nil))))) (.cons (.tup (.cons (.tup (.cons (.lit (.str "a")) (.cons (.lit (.str "b")) .nil))) (.cons (.tup (.cons (.lit (.str "b")) (.cons (.lit (.str "c")) .nil))) (.cons (.tup (.cons (.lit (.str "c")) (.cons (.lit (.str "a")) .nil))) (.cons (.tup (.cons (.lit (.str "z")) (.cons (.lit (.str "c")) .nil))) .nil))))) (.cons (.tup (.cons (.lit (.str "a")) (.cons (.lit (.str "z")) .nil))) .nil)))))
  (.cons (.own 1 (.bin .Add (.slot 1) (.lst (.cons (.lst (.cons (.call 6 (.cons (.slot 8) .nil)) (.cons (.call 5 (.cons (.slot 8) .nil)) (.cons (.call 6 (.cons (.slot 9) .nil)) (.cons (.call 5 (.cons (.slot 9) .nil)) .nil))))) .nil))))
  (.cons (.app 1 (.lst (.cons (.call 6 (.cons (.slot 3) .nil)) (.cons (.call 5 (.cons (.slot 3) .nil)) .nil))))
  (.cons (.own 2 (.bin .Add (.slot 2) (.lst (.cons (.lst (.cons (.tup .nil) (.cons (.tup .nil) (.cons (.tup .nil) (.cons (.tup .nil) .nil))))) (.cons (.lst (.cons (.tup (.cons (.lit (.str "a")) (.cons (.lit (.str "b")) (.cons (.lit (.str "c")) (.cons (.lit (.str "z")) .nil))))) (.cons (.tup (.cons (.tup (.cons (.lit (.str "a")) (.cons (.lit (.str "z")) .nil))) (.cons (.tup (.cons (.lit (.str "b")) (.cons (.lit (.str "c")) .nil))) .nil))) .nil))) .nil)))))
  (.cons (.asg 4 (.tup (.cons (.tup (.cons (.lit (.str "b")) (.cons (.lit (.str "a")) .nil))) (.cons (.tup (.cons (.lit (.str "c")) (.cons (.lit (.str "b")) .nil))) (.cons (.tup (.cons (.lit (.str "d")) (.cons (.lit (.str "c")) .nil))) (.cons (.tup (.cons (.lit (.str "e")) (.cons (.lit (.str "d")) .nil))) (.cons (.tup (.cons (.lit (.str "f")) (.cons (.lit (.str "e")) .nil))) (.cons (.tup (.cons (.lit (.str "g")) (.cons (.lit (.str "b")) .nil))) (.cons (.tup (.cons (.lit (.str "g")) (.cons (.lit (.str "f")) .nil))) .nil)))))))))
  (.cons (.asg 5 (.tup (.cons (.bi .tuple (.lit (.str "abcdefg"))) (.cons (.slot 4) (.cons (.tup (.cons (.lit (.str "g")) .nil)) .nil)))))
  (.cons (.own 1 (.bin .Add (.slot 1) (.lst (.cons (.call 5 (.cons (.slot 5) .nil)) (.cons (.call 6 (.cons (.slot 5) .nil)) (.cons (.call 9 (.cons (.slot 5) (.cons (.lit (.str "a")) .nil))) (.cons (.call 8 (.cons (.slot 5) (.cons (.lit (.str "b")) .nil))) .nil)))))))
  (.cons (.own 2 (.bin .Add (.slot 2) (.lst (.cons (.tup (.cons (.tup (.cons (.lit (.str "g")) .nil)) (.cons (.tup (.cons (.lit (.str "b")) (.cons (.lit (.str "f")) .nil))) (.cons (.tup (.cons (.lit (.str "a")) (.cons (.lit (.str "e")) .nil))) (.cons (.tup (.cons (.lit (.str "d")) .nil)) (.cons (.tup (.cons (.lit (.str "c")) .nil)) .nil)))))) (.cons (.bi .tuple (.lit (.str "abcdefg"))) (.cons (.lit (.int 2)) (.cons (.tup (.cons (.lit (.str "c")) (.cons (.lit (.str "g")) .nil))) .nil)))))))
  (.cons (.asg 6 (.tup (.cons (.lst (.cons (.lit (.str "a")) (.cons (.lit (.str "b")) .nil))) (.cons (.tup (.cons (.lst (.cons (.lit (.str "a")) (.cons (.lit (.str "b")) .nil))) (.cons (.tup (.cons (.lit (.str "b")) (.cons (.lit (.str "a")) .nil))) .nil))) (.cons (.lst (.cons (.lit (.str "b")) .nil)) .nil)))))
  (.cons (.own 1 (.bin .Add (.slot 1) (.lst (.cons (.call 5 (.cons (.slot 6) .nil)) (.cons (.call 6 (.cons (.slot 6) .nil)) (.cons (.call 7 (.cons (.slot 6) (.cons (.lit (.str "b")) .nil))) (.cons (.call 9 (.cons (.slot 6) (.cons (.lit (.str "a")) .nil))) .nil)))))))
  (.cons (.own 2 (.bin .Add (.slot 2) (.lst (.cons (.tup (.cons (.tup (.cons (.lit (.str "b")) .nil)) (.cons (.tup (.cons (.lit (.str "a")) .nil)) .nil))) (.cons (.tup (.cons (.lit (.str "a")) (.cons (.lit (.str "b")) .nil))) (.cons (.tup (.cons (.lit (.str "a")) .nil)) (.cons (.lit (.int 1)) .nil)))))))
  (.cons (.asg 7 (.call 14 (.cons (.slot 0) .nil)))
  (.cons (.own 1 (.bin .Add (.slot 1) (.lst (.cons (.kcall 6 ["heap"] [0] (.cons (.slot 7) .nil)) (.cons (.kcall 5 ["heap"] [0] (.cons (.slot 7) .nil)) .nil)))))
  (.cons (.own 1 (.bin .Add (.slot 1) (.lst (.cons (.kcall 7 ["name", "heap"] [1, 0] (.cons (.lit (.str "r")) (.cons (.slot 7) .nil))) (.cons (.kcall 8 ["name", "heap"] [1, 0] (.cons (.lit (.str "a")) (.cons (.slot 7) .nil))) .nil)))))
  (.cons (.own 1 (.bin .Add (.slot 1) (.lst (.cons (.kcall 9 ["name", "heap"] [1, 0] (.cons (.lit (.str "c")) (.cons (.slot 7) .nil))) (.cons (.slot 7) .nil)))))
  (.cons (.ret (.call 13 (.cons (.slot 1) (.cons (.bin .Add (.slot 2) (.lst (.cons (.idx (.slot 2) (.lit (.int 0))) (.cons (.idx (.slot 2) (.lit (.int 1))) (.cons (.tup (.cons (.lit (.str "a")) (.cons (.lit (.str "b")) .nil))) (.cons (.tup (.cons (.lit (.str "e")) (.cons (.lit (.str "r")) .nil))) (.cons (.lit (.int 2)) (.cons (.call 14 (.cons (.slot 0) .nil)) .nil)))))))) .nil))))
  .nil))))))))))))))))))))))))
/-- _law_right -/
def N19 : List Str := ["_law_box_here", "_law_turn", "_law_own", "_law_flat_so", "_law_lot_so", "_law_due", "_law_got", "_law_tag", "_law_laps_so", "_law_soft", "_law_spot_so", "_law_k", "_law_pair_so"]
def c19 : Stas := (.cons (.fr (.nm 1) (.rng1 (.lit (.int 8))) (.cons (.asg 2 (.call 15 (.box 0 (.cons (.lit (.int 5)) .nil))))
  (.cons (.par [(8, false), (9, false)] (.cons (.call 17 (.cons (.slot 2) .nil)) (.cons (.call 14 (.cons (.slot 2) .nil)) .nil)))
  (.cons (.asg 3 (.lst .nil))
  (.cons (.fr (.nm 4) (.ex (.slot 8)) (.cons (.asg 3 (.bin .Add (.slot 3) (.bi .list (.slot 4))))
  .nil))
  (.cons (.own 5 (.lst (.cons (.slot 8) (.cons (.bi .tuple (.bi .sorted (.slot 3))) .nil))))
  (.cons (.asg 6 (.lst (.cons (.call 5 (.cons (.slot 2) .nil)) (.cons (.call 6 (.cons (.slot 2) .nil)) (.cons (.call 5 (.cons (.slot 9) .nil)) (.cons (.call 6 (.cons (.slot 9) .nil)) .nil))))))
  (.cons (.ite (.nt (.call 13 (.cons (.slot 6) (.cons (.bin .Mult (.slot 5) (.lit (.int 2))) .nil)))) (.cons (.ret (.lit (.bool false)))
  .nil) .nil)
  (.cons (.fr (.nm 7) (.ex (.idx (.slot 2) (.lit (.int 0)))) (.cons (.asg 10 (.comp (.slot 11) [11, 4] (.tp [11, 4]) (.enum (.slot 8)) (.so (.cmp .In (.slot 7) (.slot 4)))))
  (.cons (.own 5 (.lst (.cons (.bi .tuple (.comp (.idx (.slot 12) (.lit (.int 1))) [12] (.nm 12) (.ex (.idx (.slot 2) (.lit (.int 1)))) (.so (.cmp .Eq (.idx (.slot 12) (.lit (.int 0))) (.slot 7))))) .nil)))
  (.cons (.own 5 (.bin .Add (.slot 5) (.lst (.cons (.bi .tuple (.comp (.idx (.slot 12) (.lit (.int 0))) [12] (.nm 12) (.ex (.idx (.slot 2) (.lit (.int 1)))) (.so (.cmp .Eq (.idx (.slot 12) (.lit (.int 1))) (.slot 7))))) .nil))))
  (.cons (.app 5 (.ite (.cmp .NotEq (.slot 10) (.lst .nil)) (.idx (.slot 10) (.lit (.int 0))) (.lit .none)))
  (.cons (.ite (.nt (.call 13 (.cons (.comp (.call 16 (.cons (.slot 11) (.cons (.slot 2) (.cons (.slot 7) .nil)))) [11] (.nm 11) (.rng1 (.lit (.int 3))) .no) (.cons (.slot 5) .nil)))) (.cons (.ret (.lit (.bool false)))
  .nil) .nil)
  .nil))))))
  .nil)))))))))
  (.cons (.ret (.lit (.bool true)))
  .nil))
/-- law -/
def N20 : List Str := ["_law_script", "_law_spots_so", "_law_k"]
def c20 : Stas := (.cons (.ite (.nt (.call 18 .nil)) (.cons (.ret (.lit (.bool false)))
  .nil) .nil)
  (.cons (.asg 1 (.call 12 (.scr 0 (.cons (.lit (.int 3)) .nil))))
  (.cons (.ret (.bi .all (.comp (.bcall 19 1063702 (.slot 1) (.slot 2)) [2] (.nm 2) (.rng1 (.bi .len (.slot 1))) .no)))
  .nil)))
def Fs0 : Nat → Fn := fun _ => badF
def F0 : Fn := runRec Fs0 0 Cn 2 1 c0 8
def Fs1 : Nat → Fn := upF Fs0 0 F0
def F1 : Fn := runRec Fs1 1 Cn 1 1 c1 1
def Fs2 : Nat → Fn := upF Fs1 1 F1
def F2 : Fn := runRec Fs2 2 Cn 3 2 c2 1
def Fs3 : Nat → Fn := upF Fs2 2 F2
def F3 : Fn := runRec Fs3 3 Cn 3 2 c3 1
def Fs4 : Nat → Fn := upF Fs3 3 F3
def F4 : Fn := runRec Fs4 4 Cn 4 1 c4 1
def Fs5 : Nat → Fn := upF Fs4 4 F4
def F5 : Fn := runRec Fs5 5 Cn 7 1 c5 1
def Fs6 : Nat → Fn := upF Fs5 5 F5
def F6 : Fn := runRec Fs6 6 Cn 3 1 c6 1
def Fs7 : Nat → Fn := upF Fs6 6 F6
def F7 : Fn := runRec Fs7 7 Cn 2 2 c7 1
def Fs8 : Nat → Fn := upF Fs7 7 F7
def F8 : Fn := runRec Fs8 8 Cn 4 2 c8 1
def Fs9 : Nat → Fn := upF Fs8 8 F8
def F9 : Fn := runRec Fs9 9 Cn 5 2 c9 1
def Fs10 : Nat → Fn := upF Fs9 9 F9
def F11 : Fn := runRec Fs10 11 Cn 6 2 c11 1
def Fs11 : Nat → Fn := upF Fs10 11 F11
def F12 : Fn := runRec Fs11 12 Cn 6 2 c12 1
def Fs12 : Nat → Fn := upF Fs11 12 F12
def F13 : Fn := runRec Fs12 13 Cn 4 2 c13 8
def Fs13 : Nat → Fn := upF Fs12 13 F13
def F14 : Fn := runRec Fs13 14 Cn 2 1 c14 8
def Fs14 : Nat → Fn := upF Fs13 14 F14
def F15 : Fn := runRec Fs14 15 Cn 7 2 c15 1
def Fs15 : Nat → Fn := upF Fs14 15 F15
def F16 : Fn := runRec Fs15 16 Cn 6 3 c16 1
def Fs16 : Nat → Fn := upF Fs15 16 F16
def F17 : Fn := runRec Fs16 17 Cn 7 1 c17 1
def Fs17 : Nat → Fn := upF Fs16 17 F17
def F18 : Fn := runRec Fs17 18 Cn 11 0 c18 1
def Fs18 : Nat → Fn := upF Fs17 18 F18
def F19 : Fn := runRec Fs18 19 Cn 13 1 c19 1
def Fs19 : Nat → Fn := upF Fs18 19 F19
def F20 : Fn := runRec Fs19 20 Cn 3 1 c20 1
def Fs20 : Nat → Fn := upF Fs19 20 F20
end K02
end
section
/-! K02: the walk, printed by mklaw.py -/
namespace K02
open PySem PySem.Spec PyProof.Rows L2 Pd PdHd
def top (i : Nat) : Stmt := PySem.Challenge.pw_copylayouts_k02_what_is_reached.main.body.getD i (.Pass ⟨0, 0, 0, 0⟩)
def d0 : He.DefD := ⟨("tupled", none), "tupled", "tupled", defArgs (top 3), defBody (top 3), defScope (top 3), [], []⟩
def d1 : He.DefD := ⟨("set_of", none), "set_of", "set_of", defArgs (top 4), defBody (top 4), defScope (top 4), [], []⟩
def d2 : He.DefD := ⟨("unlike", none), "unlike", "unlike", defArgs (top 5), defBody (top 5), defScope (top 5), [], []⟩
def d3 : He.DefD := ⟨("check_objects", none), "check_objects", "check_objects", defArgs (top 7), defBody (top 7), defScope (top 7), [], []⟩
def d4 : He.DefD := ⟨("pointed_from", none), "pointed_from", "pointed_from", defArgs (top 8), defBody (top 8), defScope (top 8), [], []⟩
def d5 : He.DefD := ⟨("rounds", none), "rounds", "rounds", defArgs (top 9), defBody (top 9), defScope (top 9), [], []⟩
def d6 : He.DefD := ⟨("reached", none), "reached", "reached", defArgs (top 10), defBody (top 10), defScope (top 10), [], []⟩
def d7 : He.DefD := ⟨("points_to", none), "points_to", "points_to", defArgs (top 11), defBody (top 11), defScope (top 11), [], []⟩
def d8 : He.DefD := ⟨("pointed_by", none), "pointed_by", "pointed_by", defArgs (top 12), defBody (top 12), defScope (top 12), [], []⟩
def d9 : He.DefD := ⟨("round_of", none), "round_of", "round_of", defArgs (top 13), defBody (top 13), defScope (top 13), [], []⟩
def d10 : He.DefD := ⟨("_law_box", none), "_law_box", "_law_box", defArgs (top 15), defBody (top 15), defScope (top 15), [], []⟩
def d11 : He.DefD := ⟨("_law_take", none), "_law_take", "_law_take", defArgs (top 16), defBody (top 16), defScope (top 16), [], []⟩
def d12 : He.DefD := ⟨("_law_cells", none), "_law_cells", "_law_cells", defArgs (top 17), defBody (top 17), defScope (top 17), [], []⟩
def d13 : He.DefD := ⟨("_law_same", none), "_law_same", "_law_same", defArgs (top 18), defBody (top 18), defScope (top 18), [], []⟩
def d14 : He.DefD := ⟨("_law_lists", none), "_law_lists", "_law_lists", defArgs (top 19), defBody (top 19), defScope (top 19), [], []⟩
def d15 : He.DefD := ⟨("_law_heap", none), "_law_heap", "_law_heap", defArgs (top 20), defBody (top 20), defScope (top 20), [], []⟩
def d16 : He.DefD := ⟨("_law_heard", none), "_law_heard", "_law_heard", defArgs (top 21), defBody (top 21), defScope (top 21), [], []⟩
def d17 : He.DefD := ⟨("_law_laps", none), "_law_laps", "_law_laps", defArgs (top 22), defBody (top 22), defScope (top 22), [], []⟩
def d18 : He.DefD := ⟨("_law_by_hand_right", none), "_law_by_hand_right", "_law_by_hand_right", defArgs (top 23), defBody (top 23), defScope (top 23), [], []⟩
def d19 : He.DefD := ⟨("_law_right", none), "_law_right", "_law_right", defArgs (top 24), defBody (top 24), defScope (top 24), [], []⟩
def d20 : He.DefD := ⟨("law", none), "law", "law", defArgs (top 25), defBody (top 25), defScope (top 25), [], []⟩
def fn : List He.DefD := [d0, d1, d2, d3, d4, d5, d6, d7, d8, d9, d10, d11, d12, d13, d14, d15, d16, d17, d18, d19, d20]
def cl : List ClD := [⟨"NoObject", some "name", true, "NoObject.__init__", defArgs (clsIni (top 1)), defBody (clsIni (top 1)), defScope (clsIni (top 1))⟩]
def errs : List EI := cl.map ClD.ei
def fa : List He.Fa := [.glo "tupled", .glo "set_of", .glo "unlike", .glo "check_objects", .glo "pointed_from", .glo "rounds", .glo "reached", .glo "points_to", .glo "pointed_by", .glo "round_of", .glo "_law_box", .glo "_law_take", .glo "_law_cells", .glo "_law_same", .glo "_law_lists", .glo "_law_heap", .glo "_law_heard", .glo "_law_laps", .glo "_law_by_hand_right", .glo "_law_right", .glo "law", .free "abs", .free "all", .free "bool", .free "enumerate", .free "int", .free "isinstance", .free "len", .free "list", .free "range", .free "set", .free "sorted", .free "str", .free "tuple", .free "zip", .free "LookupError"]
def ex (K : PySem.W.Frag) : Bool := true
def nm0 : List PySem.Str := ["NoObject", "tupled", "set_of", "unlike", "check_objects", "pointed_from", "rounds", "reached", "points_to", "pointed_by", "round_of", "_law_box", "_law_take", "_law_cells", "_law_same", "_law_lists", "_law_heap", "_law_heard", "_law_laps", "_law_by_hand_right", "_law_right"]
def names : List PySem.Str := nm0
abbrev R : PySem.W.OpenRow := PySem.W.OpenLaw.row PySem.Challenge.rw_copylayouts_k02_what_is_reached
abbrev hk : PySem.W.Hook := hookP PySem.Challenge.pw_copylayouts_k02_what_is_reached ex 4 fa fn cl
def ob (s : PySem.W.SharedT) : AlP := obsPG PySem.Challenge.pw_copylayouts_k02_what_is_reached ex 4 fa fn cl (HandSHeadRun.getT s)
theorem ob_eq (s : PySem.W.SharedT) : ob s = hk.obs s.abs := obsPG_eq (HandSHeadRun.getT_eq s)
theorem run (w : World) : HandSHeadRun.RunEq R (PySem.W.view R.prog [25]) hk ob 4000 names w := by
  intro os
  kernel_rfl
theorem cl_txt : ∀ x ∈ cl, ClD.txt x := by
  intro x hx
  simp only [cl, List.mem_cons, List.not_mem_nil, or_false] at hx
  subst hx
  exact ⟨⟨_, _, rfl⟩, ⟨_, _, _, _, _, _, _, _, _, _, by decide +kernel, rfl⟩, rfl, by decide, by decide, by decide, by decide, bindF_name⟩
def fns : List FI := [⟨"tupled", ["thing"]⟩, ⟨"set_of", ["row"]⟩, ⟨"unlike", ["some", "others"]⟩, ⟨"check_objects", ["heap", "names"]⟩, ⟨"pointed_from", ["heap"]⟩, ⟨"rounds", ["heap"]⟩, ⟨"reached", ["heap"]⟩, ⟨"points_to", ["heap", "name"]⟩, ⟨"pointed_by", ["heap", "name"]⟩, ⟨"round_of", ["heap", "name"]⟩, ⟨"_law_box", ["_law_script", "_law_k"]⟩, ⟨"_law_take", ["_law_box_here", "_law_below_so"]⟩, ⟨"_law_cells", ["_law_script", "_law_top_so"]⟩, ⟨"_law_same", ["_law_got", "_law_due"]⟩, ⟨"_law_lists", ["_law_matter_so"]⟩, ⟨"_law_heap", ["_law_box_here", "_law_most_so"]⟩, ⟨"_law_heard", ["_law_way_so", "_law_own", "_law_tag"]⟩, ⟨"_law_laps", ["_law_own"]⟩, ⟨"_law_by_hand_right", []⟩, ⟨"_law_right", ["_law_box_here"]⟩, ⟨"law", ["_law_script"]⟩]
def cons : List Str := []
def free : List Str := ["abs", "all", "bool", "enumerate", "int", "isinstance", "len", "list", "range", "set", "sorted", "str", "tuple", "zip", "LookupError"]
def kws : List (Nat × List Str × List Nat) := [(5, ["heap"], [0]), (6, ["heap"], [0]), (7, ["name", "heap"], [1, 0]), (8, ["name", "heap"], [1, 0]), (9, ["name", "heap"], [1, 0])]
def bx : Option FI := some ⟨"_law_box", ["_law_script", "_law_k"]⟩
def bk : Int := 1063702
theorem sc0 : FnScope N0 ["thing"] (defScope (top 3)) := ⟨rfl, rfl, rfl, by decide +kernel, rfl, by decide +kernel, by decide +kernel⟩
theorem m0 : mB ⟨N0, fns, cons, errs, free, bx, kws, bk⟩ c0 ⟨defScope (top 3), defScope (top 3), true⟩ (defBody (top 3)) = true := by decide +kernel
theorem sc1 : FnScope N1 ["row"] (defScope (top 4)) := ⟨rfl, rfl, rfl, by decide +kernel, rfl, by decide +kernel, by decide +kernel⟩
theorem m1 : mB ⟨N1, fns, cons, errs, free, bx, kws, bk⟩ c1 ⟨defScope (top 4), defScope (top 4), true⟩ (defBody (top 4)) = true := by decide +kernel
theorem sc2 : FnScope N2 ["some", "others"] (defScope (top 5)) := ⟨rfl, rfl, rfl, by decide +kernel, rfl, by decide +kernel, by decide +kernel⟩
theorem m2 : mB ⟨N2, fns, cons, errs, free, bx, kws, bk⟩ c2 ⟨defScope (top 5), defScope (top 5), true⟩ (defBody (top 5)) = true := by decide +kernel
theorem sc3 : FnScope N3 ["heap", "names"] (defScope (top 7)) := ⟨rfl, rfl, rfl, by decide +kernel, rfl, by decide +kernel, by decide +kernel⟩
theorem m3 : mB ⟨N3, fns, cons, errs, free, bx, kws, bk⟩ c3 ⟨defScope (top 7), defScope (top 7), true⟩ (defBody (top 7)) = true := by decide +kernel
theorem sc4 : FnScope N4 ["heap"] (defScope (top 8)) := ⟨rfl, rfl, rfl, by decide +kernel, rfl, by decide +kernel, by decide +kernel⟩
theorem m4 : mB ⟨N4, fns, cons, errs, free, bx, kws, bk⟩ c4 ⟨defScope (top 8), defScope (top 8), true⟩ (defBody (top 8)) = true := by decide +kernel
theorem sc5 : FnScope N5 ["heap"] (defScope (top 9)) := ⟨rfl, rfl, rfl, by decide +kernel, rfl, by decide +kernel, by decide +kernel⟩
theorem m5 : mB ⟨N5, fns, cons, errs, free, bx, kws, bk⟩ c5 ⟨defScope (top 9), defScope (top 9), true⟩ (defBody (top 9)) = true := by decide +kernel
theorem sc6 : FnScope N6 ["heap"] (defScope (top 10)) := ⟨rfl, rfl, rfl, by decide +kernel, rfl, by decide +kernel, by decide +kernel⟩
theorem m6 : mB ⟨N6, fns, cons, errs, free, bx, kws, bk⟩ c6 ⟨defScope (top 10), defScope (top 10), true⟩ (defBody (top 10)) = true := by decide +kernel
theorem sc7 : FnScope N7 ["heap", "name"] (defScope (top 11)) := ⟨rfl, rfl, rfl, by decide +kernel, rfl, by decide +kernel, by decide +kernel⟩
theorem m7 : mB ⟨N7, fns, cons, errs, free, bx, kws, bk⟩ c7 ⟨defScope (top 11), defScope (top 11), true⟩ (defBody (top 11)) = true := by decide +kernel
theorem sc8 : FnScope N8 ["heap", "name"] (defScope (top 12)) := ⟨rfl, rfl, rfl, by decide +kernel, rfl, by decide +kernel, by decide +kernel⟩
theorem m8 : mB ⟨N8, fns, cons, errs, free, bx, kws, bk⟩ c8 ⟨defScope (top 12), defScope (top 12), true⟩ (defBody (top 12)) = true := by decide +kernel
theorem sc9 : FnScope N9 ["heap", "name"] (defScope (top 13)) := ⟨rfl, rfl, rfl, by decide +kernel, rfl, by decide +kernel, by decide +kernel⟩
theorem m9 : mB ⟨N9, fns, cons, errs, free, bx, kws, bk⟩ c9 ⟨defScope (top 13), defScope (top 13), true⟩ (defBody (top 13)) = true := by decide +kernel
theorem sc10 : FnScope N10 ["_law_script", "_law_k"] (defScope (top 15)) := ⟨rfl, rfl, rfl, by decide +kernel, rfl, by decide +kernel, by decide +kernel⟩
theorem sc11 : FnScope N11 ["_law_box_here", "_law_below_so"] (defScope (top 16)) := ⟨rfl, rfl, rfl, by decide +kernel, rfl, by decide +kernel, by decide +kernel⟩
theorem m11 : mB ⟨N11, fns, cons, errs, free, bx, kws, bk⟩ c11 ⟨defScope (top 16), defScope (top 16), true⟩ (defBody (top 16)) = true := by decide +kernel
theorem sc12 : FnScope N12 ["_law_script", "_law_top_so"] (defScope (top 17)) := ⟨rfl, rfl, rfl, by decide +kernel, rfl, by decide +kernel, by decide +kernel⟩
theorem m12 : mB ⟨N12, fns, cons, errs, free, bx, kws, bk⟩ c12 ⟨defScope (top 17), defScope (top 17), true⟩ (defBody (top 17)) = true := by decide +kernel
theorem sc13 : FnScope N13 ["_law_got", "_law_due"] (defScope (top 18)) := ⟨rfl, rfl, rfl, by decide +kernel, rfl, by decide +kernel, by decide +kernel⟩
theorem m13 : mB ⟨N13, fns, cons, errs, free, bx, kws, bk⟩ c13 ⟨defScope (top 18), defScope (top 18), true⟩ (defBody (top 18)) = true := by decide +kernel
theorem sc14 : FnScope N14 ["_law_matter_so"] (defScope (top 19)) := ⟨rfl, rfl, rfl, by decide +kernel, rfl, by decide +kernel, by decide +kernel⟩
theorem m14 : mB ⟨N14, fns, cons, errs, free, bx, kws, bk⟩ c14 ⟨defScope (top 19), defScope (top 19), true⟩ (defBody (top 19)) = true := by decide +kernel
theorem sc15 : FnScope N15 ["_law_box_here", "_law_most_so"] (defScope (top 20)) := ⟨rfl, rfl, rfl, by decide +kernel, rfl, by decide +kernel, by decide +kernel⟩
theorem m15 : mB ⟨N15, fns, cons, errs, free, bx, kws, bk⟩ c15 ⟨defScope (top 20), defScope (top 20), true⟩ (defBody (top 20)) = true := by decide +kernel
theorem sc16 : FnScope N16 ["_law_way_so", "_law_own", "_law_tag"] (defScope (top 21)) := ⟨rfl, rfl, rfl, by decide +kernel, rfl, by decide +kernel, by decide +kernel⟩
theorem m16 : mB ⟨N16, fns, cons, errs, free, bx, kws, bk⟩ c16 ⟨defScope (top 21), defScope (top 21), true⟩ (defBody (top 21)) = true := by decide +kernel
theorem sc17 : FnScope N17 ["_law_own"] (defScope (top 22)) := ⟨rfl, rfl, rfl, by decide +kernel, rfl, by decide +kernel, by decide +kernel⟩
theorem m17 : mB ⟨N17, fns, cons, errs, free, bx, kws, bk⟩ c17 ⟨defScope (top 22), defScope (top 22), true⟩ (defBody (top 22)) = true := by decide +kernel
theorem sc18 : FnScope N18 [] (defScope (top 23)) := ⟨rfl, rfl, rfl, by decide +kernel, rfl, by decide +kernel, by decide +kernel⟩
theorem m18 : mB ⟨N18, fns, cons, errs, free, bx, kws, bk⟩ c18 ⟨defScope (top 23), defScope (top 23), true⟩ (defBody (top 23)) = true := by decide +kernel
theorem sc19 : FnScope N19 ["_law_box_here"] (defScope (top 24)) := ⟨rfl, rfl, rfl, by decide +kernel, rfl, by decide +kernel, by decide +kernel⟩
theorem m19 : mB ⟨N19, fns, cons, errs, free, bx, kws, bk⟩ c19 ⟨defScope (top 24), defScope (top 24), true⟩ (defBody (top 24)) = true := by decide +kernel
theorem sc20 : FnScope N20 ["_law_script"] (defScope (top 25)) := ⟨rfl, rfl, rfl, by decide +kernel, rfl, by decide +kernel, by decide +kernel⟩
theorem m20 : mB ⟨N20, fns, cons, errs, free, bx, kws, bk⟩ c20 ⟨defScope (top 25), defScope (top 25), true⟩ (defBody (top 25)) = true := by decide +kernel
section
variable {w : World} {K : PySem.W.Frag} {h : Heap} {mg : Str → Option Value} {base : Heap}
theorem kn (X : K.In h) (G : h.Ns mainGlobals mg) (c : SaysP PySem.Challenge.pw_copylayouts_k02_what_is_reached ex fa fn cl K) {fD : Nat → FuncData} (hD : ∀ (i : Nat) (d : He.DefD), fn[i]? = some d → FunD K d.name d.qual d.params d.body d.scope (d.dvs K) (d.kws K) (He.fAd K d.at_) (fD i)) :
    Kn K mg fns kws (fAdr fn K) fD := by
  intro i fi e
  cases i with
  | zero =>
    cases e
    have F := hD 0 d0 rfl
    refine ⟨He.glo_ok X G (c.d.fact 0 (f := .glo "tupled") rfl), F.kp, F.bindsN fun _ _ _ _ _ _ us hl => (match us, hl with | [_], _ => rfl), fun ks pm hk => ?_⟩
    simp [kws] at hk
  | succ i =>
  cases i with
  | zero =>
    cases e
    have F := hD 1 d1 rfl
    refine ⟨He.glo_ok X G (c.d.fact 1 (f := .glo "set_of") rfl), F.kp, F.bindsN fun _ _ _ _ _ _ us hl => (match us, hl with | [_], _ => rfl), fun ks pm hk => ?_⟩
    simp [kws] at hk
  | succ i =>
  cases i with
  | zero =>
    cases e
    have F := hD 2 d2 rfl
    refine ⟨He.glo_ok X G (c.d.fact 2 (f := .glo "unlike") rfl), F.kp, F.bindsN fun _ _ _ _ _ _ us hl => (match us, hl with | [_, _], _ => rfl), fun ks pm hk => ?_⟩
    simp [kws] at hk
  | succ i =>
  cases i with
  | zero =>
    cases e
    have F := hD 3 d3 rfl
    refine ⟨He.glo_ok X G (c.d.fact 3 (f := .glo "check_objects") rfl), F.kp, F.bindsN fun _ _ _ _ _ _ us hl => (match us, hl with | [_, _], _ => rfl), fun ks pm hk => ?_⟩
    simp [kws] at hk
  | succ i =>
  cases i with
  | zero =>
    cases e
    have F := hD 4 d4 rfl
    refine ⟨He.glo_ok X G (c.d.fact 4 (f := .glo "pointed_from") rfl), F.kp, F.bindsN fun _ _ _ _ _ _ us hl => (match us, hl with | [_], _ => rfl), fun ks pm hk => ?_⟩
    simp [kws] at hk
  | succ i =>
  cases i with
  | zero =>
    cases e
    have F := hD 5 d5 rfl
    refine ⟨He.glo_ok X G (c.d.fact 5 (f := .glo "rounds") rfl), F.kp, F.bindsN fun _ _ _ _ _ _ us hl => (match us, hl with | [_], _ => rfl), fun ks pm hk => ?_⟩
    simp [kws] at hk
    obtain ⟨rfl, rfl⟩ := hk
    exact kw_of F rfl (by decide) fun _ _ _ _ _ _ ws hl => (match ws, hl with | [_], _ => rfl)
  | succ i =>
  cases i with
  | zero =>
    cases e
    have F := hD 6 d6 rfl
    refine ⟨He.glo_ok X G (c.d.fact 6 (f := .glo "reached") rfl), F.kp, F.bindsN fun _ _ _ _ _ _ us hl => (match us, hl with | [_], _ => rfl), fun ks pm hk => ?_⟩
    simp [kws] at hk
    obtain ⟨rfl, rfl⟩ := hk
    exact kw_of F rfl (by decide) fun _ _ _ _ _ _ ws hl => (match ws, hl with | [_], _ => rfl)
  | succ i =>
  cases i with
  | zero =>
    cases e
    have F := hD 7 d7 rfl
    refine ⟨He.glo_ok X G (c.d.fact 7 (f := .glo "points_to") rfl), F.kp, F.bindsN fun _ _ _ _ _ _ us hl => (match us, hl with | [_, _], _ => rfl), fun ks pm hk => ?_⟩
    simp [kws] at hk
    obtain ⟨rfl, rfl⟩ := hk
    exact kw_of F rfl (by decide) fun _ _ _ _ _ _ ws hl => (match ws, hl with | [_, _], _ => rfl)
  | succ i =>
  cases i with
  | zero =>
    cases e
    have F := hD 8 d8 rfl
    refine ⟨He.glo_ok X G (c.d.fact 8 (f := .glo "pointed_by") rfl), F.kp, F.bindsN fun _ _ _ _ _ _ us hl => (match us, hl with | [_, _], _ => rfl), fun ks pm hk => ?_⟩
    simp [kws] at hk
    obtain ⟨rfl, rfl⟩ := hk
    exact kw_of F rfl (by decide) fun _ _ _ _ _ _ ws hl => (match ws, hl with | [_, _], _ => rfl)
  | succ i =>
  cases i with
  | zero =>
    cases e
    have F := hD 9 d9 rfl
    refine ⟨He.glo_ok X G (c.d.fact 9 (f := .glo "round_of") rfl), F.kp, F.bindsN fun _ _ _ _ _ _ us hl => (match us, hl with | [_, _], _ => rfl), fun ks pm hk => ?_⟩
    simp [kws] at hk
    obtain ⟨rfl, rfl⟩ := hk
    exact kw_of F rfl (by decide) fun _ _ _ _ _ _ ws hl => (match ws, hl with | [_, _], _ => rfl)
  | succ i =>
  cases i with
  | zero =>
    cases e
    have F := hD 10 d10 rfl
    refine ⟨He.glo_ok X G (c.d.fact 10 (f := .glo "_law_box") rfl), F.kp, F.bindsN fun _ _ _ _ _ _ us hl => (match us, hl with | [_, _], _ => rfl), fun ks pm hk => ?_⟩
    simp [kws] at hk
  | succ i =>
  cases i with
  | zero =>
    cases e
    have F := hD 11 d11 rfl
    refine ⟨He.glo_ok X G (c.d.fact 11 (f := .glo "_law_take") rfl), F.kp, F.bindsN fun _ _ _ _ _ _ us hl => (match us, hl with | [_, _], _ => rfl), fun ks pm hk => ?_⟩
    simp [kws] at hk
  | succ i =>
  cases i with
  | zero =>
    cases e
    have F := hD 12 d12 rfl
    refine ⟨He.glo_ok X G (c.d.fact 12 (f := .glo "_law_cells") rfl), F.kp, F.bindsN fun _ _ _ _ _ _ us hl => (match us, hl with | [_, _], _ => rfl), fun ks pm hk => ?_⟩
    simp [kws] at hk
  | succ i =>
  cases i with
  | zero =>
    cases e
    have F := hD 13 d13 rfl
    refine ⟨He.glo_ok X G (c.d.fact 13 (f := .glo "_law_same") rfl), F.kp, F.bindsN fun _ _ _ _ _ _ us hl => (match us, hl with | [_, _], _ => rfl), fun ks pm hk => ?_⟩
    simp [kws] at hk
  | succ i =>
  cases i with
  | zero =>
    cases e
    have F := hD 14 d14 rfl
    refine ⟨He.glo_ok X G (c.d.fact 14 (f := .glo "_law_lists") rfl), F.kp, F.bindsN fun _ _ _ _ _ _ us hl => (match us, hl with | [_], _ => rfl), fun ks pm hk => ?_⟩
    simp [kws] at hk
  | succ i =>
  cases i with
  | zero =>
    cases e
    have F := hD 15 d15 rfl
    refine ⟨He.glo_ok X G (c.d.fact 15 (f := .glo "_law_heap") rfl), F.kp, F.bindsN fun _ _ _ _ _ _ us hl => (match us, hl with | [_, _], _ => rfl), fun ks pm hk => ?_⟩
    simp [kws] at hk
  | succ i =>
  cases i with
  | zero =>
    cases e
    have F := hD 16 d16 rfl
    refine ⟨He.glo_ok X G (c.d.fact 16 (f := .glo "_law_heard") rfl), F.kp, F.bindsN fun _ _ _ _ _ _ us hl => (match us, hl with | [_, _, _], _ => rfl), fun ks pm hk => ?_⟩
    simp [kws] at hk
  | succ i =>
  cases i with
  | zero =>
    cases e
    have F := hD 17 d17 rfl
    refine ⟨He.glo_ok X G (c.d.fact 17 (f := .glo "_law_laps") rfl), F.kp, F.bindsN fun _ _ _ _ _ _ us hl => (match us, hl with | [_], _ => rfl), fun ks pm hk => ?_⟩
    simp [kws] at hk
  | succ i =>
  cases i with
  | zero =>
    cases e
    have F := hD 18 d18 rfl
    refine ⟨He.glo_ok X G (c.d.fact 18 (f := .glo "_law_by_hand_right") rfl), F.kp, F.bindsN fun _ _ _ _ _ _ us hl => (match us, hl with | [], _ => rfl), fun ks pm hk => ?_⟩
    simp [kws] at hk
  | succ i =>
  cases i with
  | zero =>
    cases e
    have F := hD 19 d19 rfl
    refine ⟨He.glo_ok X G (c.d.fact 19 (f := .glo "_law_right") rfl), F.kp, F.bindsN fun _ _ _ _ _ _ us hl => (match us, hl with | [_], _ => rfl), fun ks pm hk => ?_⟩
    simp [kws] at hk
  | succ i =>
  cases i with
  | zero =>
    cases e
    have F := hD 20 d20 rfl
    refine ⟨He.glo_ok X G (c.d.fact 20 (f := .glo "law") rfl), F.kp, F.bindsN fun _ _ _ _ _ _ us hl => (match us, hl with | [_], _ => rfl), fun ks pm hk => ?_⟩
    simp [kws] at hk
  | succ i =>
  exact absurd e (by simp [fns])
theorem re (X : K.In h) (G : h.Ns mainGlobals mg) (c : SaysP PySem.Challenge.pw_copylayouts_k02_what_is_reached ex fa fn cl K) : Re PySem.Challenge.pw_copylayouts_k02_what_is_reached K mg cons free errs Cn := by
  refine ⟨c.er X G cl_txt, c.exm X G, fun i nm e => ?_, fun nm hm => ?_⟩
  · exact absurd e (by simp [cons])
  · simp only [free, List.mem_cons, List.not_mem_nil, or_false] at hm
    rcases hm with rfl | rfl | rfl | rfl | rfl | rfl | rfl | rfl | rfl | rfl | rfl | rfl | rfl | rfl | rfl
    · exact He.free_ok X G (c.d.fact 21 (f := .free "abs") rfl)
    · exact He.free_ok X G (c.d.fact 22 (f := .free "all") rfl)
    · exact He.free_ok X G (c.d.fact 23 (f := .free "bool") rfl)
    · exact He.free_ok X G (c.d.fact 24 (f := .free "enumerate") rfl)
    · exact He.free_ok X G (c.d.fact 25 (f := .free "int") rfl)
    · exact He.free_ok X G (c.d.fact 26 (f := .free "isinstance") rfl)
    · exact He.free_ok X G (c.d.fact 27 (f := .free "len") rfl)
    · exact He.free_ok X G (c.d.fact 28 (f := .free "list") rfl)
    · exact He.free_ok X G (c.d.fact 29 (f := .free "range") rfl)
    · exact He.free_ok X G (c.d.fact 30 (f := .free "set") rfl)
    · exact He.free_ok X G (c.d.fact 31 (f := .free "sorted") rfl)
    · exact He.free_ok X G (c.d.fact 32 (f := .free "str") rfl)
    · exact He.free_ok X G (c.d.fact 33 (f := .free "tuple") rfl)
    · exact He.free_ok X G (c.d.fact 34 (f := .free "zip") rfl)
    · exact He.free_ok X G (c.d.fact 35 (f := .free "LookupError") rfl)
end
section
variable {w : World} {K : PySem.W.Frag} {mg : Str → Option Value} {base : Heap} {fD : Nat → FuncData}
abbrev Ok (w : World) (K : PySem.W.Frag) (mg : Str → Option Value) (base : Heap) (fD : Nat → FuncData) (k : Nat) (Fs : Nat → Fn) : Prop := OkAt PySem.Challenge.pw_copylayouts_k02_what_is_reached w K mg base fns errs (fAdr fn K) fD k Fs
abbrev Bo (w : World) (K : PySem.W.Frag) (mg : Str → Option Value) (base : Heap) (k : Nat) : Prop := BxOk PySem.Challenge.pw_copylayouts_k02_what_is_reached w K mg base bx bk k
theorem ok_all (k0 : Kn K mg fns kws (fAdr fn K) fD) (r0 : Re PySem.Challenge.pw_copylayouts_k02_what_is_reached K mg cons free errs Cn) (hD : ∀ (i : Nat) (d : He.DefD), fn[i]? = some d → FunD K d.name d.qual d.params d.body d.scope (d.dvs K) (d.kws K) (He.fAd K d.at_) (fD i)) :
    ∃ k, k ≤ 42 ∧ Ok w K mg base fD k Fs20 := by
  have b0 : Bo w K mg base 1 := by
    intro fi e
    cases e
    obtain ⟨h1, h2, h3, _⟩ := k0 10 _ rfl
    refine ⟨_, _, h1, h2, h3, ?_⟩
    exact box_ok (g := ⟨N10, fns, cons, errs, free, none, kws, bk⟩) (hD 10 d10 rfl) sc10 rfl rfl (gf_of k0 r0 ok_zero (fun _ z => by cases z)) (by decide +kernel)
  have o0 : Ok w K mg base fD 1 Fs0 := ok_zero.mono (Nat.zero_le 1)
  have o1 : Ok w K mg base fD 9 Fs1 := OkAt.code2 (kws := kws) (N := N0) (ps := ["thing"]) (F := F0) k0 r0 o0 b0 (by decide) rfl (show FunD K "tupled" "tupled" (defArgs (top 3)) (defBody (top 3)) (defScope (top 3)) [] [] (fAdr fn K 0) (fD 0) from hD 0 d0 rfl) sc0 m0 rfl rfl rfl rfl rfl
  have o2 : Ok w K mg base fD 10 Fs2 := OkAt.code2 (kws := kws) (N := N1) (ps := ["row"]) (F := F1) k0 r0 o1 b0 (by decide) rfl (show FunD K "set_of" "set_of" (defArgs (top 4)) (defBody (top 4)) (defScope (top 4)) [] [] (fAdr fn K 1) (fD 1) from hD 1 d1 rfl) sc1 m1 rfl rfl rfl rfl rfl
  have o3 : Ok w K mg base fD 11 Fs3 := OkAt.code2 (kws := kws) (N := N2) (ps := ["some", "others"]) (F := F2) k0 r0 o2 b0 (by decide) rfl (show FunD K "unlike" "unlike" (defArgs (top 5)) (defBody (top 5)) (defScope (top 5)) [] [] (fAdr fn K 2) (fD 2) from hD 2 d2 rfl) sc2 m2 rfl rfl rfl rfl rfl
  have o4 : Ok w K mg base fD 12 Fs4 := OkAt.code2 (kws := kws) (N := N3) (ps := ["heap", "names"]) (F := F3) k0 r0 o3 b0 (by decide) rfl (show FunD K "check_objects" "check_objects" (defArgs (top 7)) (defBody (top 7)) (defScope (top 7)) [] [] (fAdr fn K 3) (fD 3) from hD 3 d3 rfl) sc3 m3 rfl rfl rfl rfl rfl
  have o5 : Ok w K mg base fD 13 Fs5 := OkAt.code2 (kws := kws) (N := N4) (ps := ["heap"]) (F := F4) k0 r0 o4 b0 (by decide) rfl (show FunD K "pointed_from" "pointed_from" (defArgs (top 8)) (defBody (top 8)) (defScope (top 8)) [] [] (fAdr fn K 4) (fD 4) from hD 4 d4 rfl) sc4 m4 rfl rfl rfl rfl rfl
  have o6 : Ok w K mg base fD 14 Fs6 := OkAt.code2 (kws := kws) (N := N5) (ps := ["heap"]) (F := F5) k0 r0 o5 b0 (by decide) rfl (show FunD K "rounds" "rounds" (defArgs (top 9)) (defBody (top 9)) (defScope (top 9)) [] [] (fAdr fn K 5) (fD 5) from hD 5 d5 rfl) sc5 m5 rfl rfl rfl rfl rfl
  have o7 : Ok w K mg base fD 15 Fs7 := OkAt.code2 (kws := kws) (N := N6) (ps := ["heap"]) (F := F6) k0 r0 o6 b0 (by decide) rfl (show FunD K "reached" "reached" (defArgs (top 10)) (defBody (top 10)) (defScope (top 10)) [] [] (fAdr fn K 6) (fD 6) from hD 6 d6 rfl) sc6 m6 rfl rfl rfl rfl rfl
  have o8 : Ok w K mg base fD 16 Fs8 := OkAt.code2 (kws := kws) (N := N7) (ps := ["heap", "name"]) (F := F7) k0 r0 o7 b0 (by decide) rfl (show FunD K "points_to" "points_to" (defArgs (top 11)) (defBody (top 11)) (defScope (top 11)) [] [] (fAdr fn K 7) (fD 7) from hD 7 d7 rfl) sc7 m7 rfl rfl rfl rfl rfl
  have o9 : Ok w K mg base fD 17 Fs9 := OkAt.code2 (kws := kws) (N := N8) (ps := ["heap", "name"]) (F := F8) k0 r0 o8 b0 (by decide) rfl (show FunD K "pointed_by" "pointed_by" (defArgs (top 12)) (defBody (top 12)) (defScope (top 12)) [] [] (fAdr fn K 8) (fD 8) from hD 8 d8 rfl) sc8 m8 rfl rfl rfl rfl rfl
  have o10 : Ok w K mg base fD 18 Fs10 := OkAt.code2 (kws := kws) (N := N9) (ps := ["heap", "name"]) (F := F9) k0 r0 o9 b0 (by decide) rfl (show FunD K "round_of" "round_of" (defArgs (top 13)) (defBody (top 13)) (defScope (top 13)) [] [] (fAdr fn K 9) (fD 9) from hD 9 d9 rfl) sc9 m9 rfl rfl rfl rfl rfl
  have o11 : Ok w K mg base fD 19 Fs11 := OkAt.code2 (kws := kws) (N := N11) (ps := ["_law_box_here", "_law_below_so"]) (F := F11) k0 r0 o10 b0 (by decide) rfl (show FunD K "_law_take" "_law_take" (defArgs (top 16)) (defBody (top 16)) (defScope (top 16)) [] [] (fAdr fn K 11) (fD 11) from hD 11 d11 rfl) sc11 m11 rfl rfl rfl rfl rfl
  have o12 : Ok w K mg base fD 20 Fs12 := OkAt.code2 (kws := kws) (N := N12) (ps := ["_law_script", "_law_top_so"]) (F := F12) k0 r0 o11 b0 (by decide) rfl (show FunD K "_law_cells" "_law_cells" (defArgs (top 17)) (defBody (top 17)) (defScope (top 17)) [] [] (fAdr fn K 12) (fD 12) from hD 12 d12 rfl) sc12 m12 rfl rfl rfl rfl rfl
  have o13 : Ok w K mg base fD 28 Fs13 := OkAt.code2 (kws := kws) (N := N13) (ps := ["_law_got", "_law_due"]) (F := F13) k0 r0 o12 b0 (by decide) rfl (show FunD K "_law_same" "_law_same" (defArgs (top 18)) (defBody (top 18)) (defScope (top 18)) [] [] (fAdr fn K 13) (fD 13) from hD 13 d13 rfl) sc13 m13 rfl rfl rfl rfl rfl
  have o14 : Ok w K mg base fD 36 Fs14 := OkAt.code2 (kws := kws) (N := N14) (ps := ["_law_matter_so"]) (F := F14) k0 r0 o13 b0 (by decide) rfl (show FunD K "_law_lists" "_law_lists" (defArgs (top 19)) (defBody (top 19)) (defScope (top 19)) [] [] (fAdr fn K 14) (fD 14) from hD 14 d14 rfl) sc14 m14 rfl rfl rfl rfl rfl
  have o15 : Ok w K mg base fD 37 Fs15 := OkAt.code2 (kws := kws) (N := N15) (ps := ["_law_box_here", "_law_most_so"]) (F := F15) k0 r0 o14 b0 (by decide) rfl (show FunD K "_law_heap" "_law_heap" (defArgs (top 20)) (defBody (top 20)) (defScope (top 20)) [] [] (fAdr fn K 15) (fD 15) from hD 15 d15 rfl) sc15 m15 rfl rfl rfl rfl rfl
  have o16 : Ok w K mg base fD 38 Fs16 := OkAt.code2 (kws := kws) (N := N16) (ps := ["_law_way_so", "_law_own", "_law_tag"]) (F := F16) k0 r0 o15 b0 (by decide) rfl (show FunD K "_law_heard" "_law_heard" (defArgs (top 21)) (defBody (top 21)) (defScope (top 21)) [] [] (fAdr fn K 16) (fD 16) from hD 16 d16 rfl) sc16 m16 rfl rfl rfl rfl rfl
  have o17 : Ok w K mg base fD 39 Fs17 := OkAt.code2 (kws := kws) (N := N17) (ps := ["_law_own"]) (F := F17) k0 r0 o16 b0 (by decide) rfl (show FunD K "_law_laps" "_law_laps" (defArgs (top 22)) (defBody (top 22)) (defScope (top 22)) [] [] (fAdr fn K 17) (fD 17) from hD 17 d17 rfl) sc17 m17 rfl rfl rfl rfl rfl
  have o18 : Ok w K mg base fD 40 Fs18 := OkAt.code2 (kws := kws) (N := N18) (ps := []) (F := F18) k0 r0 o17 b0 (by decide) rfl (show FunD K "_law_by_hand_right" "_law_by_hand_right" (defArgs (top 23)) (defBody (top 23)) (defScope (top 23)) [] [] (fAdr fn K 18) (fD 18) from hD 18 d18 rfl) sc18 m18 rfl rfl rfl rfl rfl
  have o19 : Ok w K mg base fD 41 Fs19 := OkAt.code2 (kws := kws) (N := N19) (ps := ["_law_box_here"]) (F := F19) k0 r0 o18 b0 (by decide) rfl (show FunD K "_law_right" "_law_right" (defArgs (top 24)) (defBody (top 24)) (defScope (top 24)) [] [] (fAdr fn K 19) (fD 19) from hD 19 d19 rfl) sc19 m19 rfl rfl rfl rfl rfl
  have o20 : Ok w K mg base fD 42 Fs20 := OkAt.code2 (kws := kws) (N := N20) (ps := ["_law_script"]) (F := F20) k0 r0 o19 b0 (by decide) rfl (show FunD K "law" "law" (defArgs (top 25)) (defBody (top 25)) (defScope (top 25)) [] [] (fAdr fn K 20) (fD 20) from hD 20 d20 rfl) sc20 m20 rfl rfl rfl rfl rfl
  exact ⟨_, by decide, o20⟩
end
end K02

open PySem PySem.W PySem.Calls PyProof.Rows
theorem K02.holds (hF : ∀ ns : List Int, ns.length ≤ 63 → ∀ s, ∃ s', K02.F20 [.scr ns] s = .ok (.bool true) s') : PySem.Challenge.rw_copylayouts_k02_what_is_reached.Holds := by
  w_on; o_law
  refine HandSHeadRun.head_any (r := OpenLaw.row PySem.Challenge.rw_copylayouts_k02_what_is_reached) (q := view (OpenLaw.row PySem.Challenge.rw_copylayouts_k02_what_is_reached).prog [25]) (H := K02.hk) (ob := K02.ob) (M := 4000) (loose := K02.names) (d := HandSHeadRun.topDef (OpenLaw.row PySem.Challenge.rw_copylayouts_k02_what_is_reached).prog 25) (kwd := []) K02.ob_eq
    (by kernel_rfl) (fun s => by kernel_rfl) K02.run (by kernel_rfl) (by kernel_rfl) (by kernel_rfl) (by rfl) (by first | assumption | decide +kernel) (by decide +kernel) ⟨rfl, rfl, rfl, rfl, rfl, by decide +kernel⟩ ?hw ?hc
  case hw => w_witness2
  case hc =>
    refine PdHd.walk_ofP (l := PySem.Challenge.rw_copylayouts_k02_what_is_reached) (n := 63) (k := 42) (x := "_law_script") rfl (by decide) (by kernel_rfl) ⟨rfl, by decide, by decide⟩ ?F
    intro w mg fa h Y G hmg0
    obtain ⟨K, KX, c⟩ := Y
    have hmg : mg ("law" : PySem.Str) = some (.ref fa) := by
      have e : (HandSHeadRun.topDef (OpenLaw.row PySem.Challenge.rw_copylayouts_k02_what_is_reached).prog 25).name = ("law" : PySem.Str) := by kernel_rfl
      rw [← e]
      exact hmg0
    obtain ⟨fD, hD⟩ := c.defs (d0 := K02.d0) rfl
    have k0 := K02.kn KX G c hD
    have r0 := K02.re KX G c
    have F := hD 20 K02.d20 rfl
    have e := hmg.symm.trans (He.glo_ok KX G (c.d.fact 20 (f := .glo "law") rfl))
    have e := Option.some.inj e
    injection e with e
    have b := L2.FunD.bindsA (ps := ["_law_script"]) F fun _ _ _ _ _ _ us hl => (match us, hl with | [_], _ => rfl)
    refine ⟨K, fD 20, Pd.spF K mg K02.errs K02.F20 1, KX, fun s v => b s [v] rfl, fun H a ns hl _ hS => PdHd.end_sp hF H a ns hl hS, fun base _ _ => ?_⟩
    obtain ⟨k, hk, o⟩ := K02.ok_all (w := w) (base := base) k0 r0 hD
    have q := (o 20 _ rfl).1
    rw [e]
    exact q.mono hk
end
section
/-! K02: what its defs answer, the program's. -/
namespace K02M
open PySem PyProof.Rows Pd Pm K02
def Oks (xs : List Str) : Prop := ∀ x ∈ xs, PyData.strOk x = true
theorem f1 {b : Bool} {xs : List Str} (h : Oks xs) (hl : xs.length < 4000) (s : Bx) : F1 [.dat (sq b (nD xs))] s = .ok (.tuple (nD (ss xs))) s := by
  simp [F1, runRec, ev, evs, evas, evp, evo, evc, evAnd, evOr, evIt, exS, exB, ↓bind_eq, ↓lft_eq, ↓seq_eq, ↓turn_eq, ↓quiet_eq, pure_eq, go_eq, some_eq, none_eq, ↓run_eq, getSlot, isOwn, anyOwn, itOwn, ownAs, eoOwn, ↓tr_eq, truth, bindTg, Pd.bindAll, wipeE, ckLim, ckTup, startE, slotOf, freeze, srcSlot, atOwn, setPar, evPar, frM, frD, turnF, turnF2, turnK, keyOk, ckDic, lim_eq, itemsOf_sq, seqOf_sq, len_sq, tup_sq, idx_sq, at0, at1, at2, upF, c1, ssetD_sq h hl, biD]
theorem f2 {xs ys : List Str} (h : Oks xs) (h2 : Oks ys) (hl : xs.length < 4000) (b c : Bool) (s : Bx) : F2 [.dat (sq b (nD xs)), .dat (sq c (nD ys))] s = .ok (.tuple (nD (xs.filter fun x => decide (x ∉ ys)))) s := by
  have hc : ∀ Φ, ev Φ Cn (.comp (.slot 2) [2] (.nm 2) (.ex (.slot 0)) (.so (.cmp .NotIn (.slot 2) (.slot 1)))) [.dat (sq b (nD xs)), .dat (sq c (nD ys)), .un] s = .ok (.list (nD (xs.filter fun x => decide (x ∉ ys)))) s := fun Φ =>
    comp_if (g' := .str) (h := .str) (by simp [ev, evs, evas, evp, evo, evc, evAnd, evOr, evIt, exS, exB, ↓bind_eq, ↓lft_eq, ↓seq_eq, ↓turn_eq, ↓quiet_eq, pure_eq, go_eq, some_eq, none_eq, ↓run_eq, getSlot, isOwn, anyOwn, itOwn, ownAs, eoOwn, ↓tr_eq, truth, bindTg, Pd.bindAll, wipeE, ckLim, ckTup, startE, slotOf, freeze, srcSlot, atOwn, setPar, evPar, frM, frD, turnF, turnF2, turnK, keyOk, ckDic, lim_eq, itemsOf_sq, seqOf_sq, len_sq, tup_sq, idx_sq, at0, at1, at2, upF, nD]) (by rfl) (fun x hx => by
      by_cases e : x ∈ ys <;> simp [ev, evs, evas, evp, evo, evc, evAnd, evOr, evIt, exS, exB, ↓bind_eq, ↓lft_eq, ↓seq_eq, ↓turn_eq, ↓quiet_eq, pure_eq, go_eq, some_eq, none_eq, ↓run_eq, getSlot, isOwn, anyOwn, itOwn, ownAs, eoOwn, ↓tr_eq, truth, bindTg, Pd.bindAll, wipeE, ckLim, ckTup, startE, slotOf, freeze, srcSlot, atOwn, setPar, evPar, frM, frD, turnF, turnF2, turnK, keyOk, ckDic, lim_eq, itemsOf_sq, seqOf_sq, len_sq, tup_sq, idx_sq, at0, at1, at2, upF, cmpD, inD_sq (h x hx) h2, e]) (by omega)
  simp [F2, runRec, ev, evs, evas, evp, evo, evc, evAnd, evOr, evIt, exS, exB, ↓bind_eq, ↓lft_eq, ↓seq_eq, ↓turn_eq, ↓quiet_eq, pure_eq, go_eq, some_eq, none_eq, ↓run_eq, getSlot, isOwn, anyOwn, itOwn, ownAs, eoOwn, ↓tr_eq, truth, bindTg, Pd.bindAll, wipeE, ckLim, ckTup, startE, slotOf, freeze, srcSlot, atOwn, setPar, evPar, frM, frD, turnF, turnF2, turnK, keyOk, ckDic, lim_eq, itemsOf_sq, seqOf_sq, len_sq, tup_sq, idx_sq, at0, at1, at2, upF, c2, ↓hc, biD]
/-! tupled -/
def Tp : Nat → Fn := runRec Fs0 0 Cn 2 1 c0
theorem tp_str (m : Nat) (x : Str) (s : Bx) : Tp (m + 1) [.dat (.str x)] s = .ok (.str x) s := by
  simp [Tp, runRec, ev, evs, evas, evp, evo, evc, evAnd, evOr, evIt, exS, exB, ↓bind_eq, ↓lft_eq, ↓seq_eq, ↓turn_eq, ↓quiet_eq, pure_eq, go_eq, some_eq, none_eq, ↓run_eq, getSlot, isOwn, anyOwn, itOwn, ownAs, eoOwn, ↓tr_eq, truth, bindTg, Pd.bindAll, wipeE, ckLim, ckTup, startE, slotOf, freeze, srcSlot, atOwn, setPar, evPar, frM, frD, turnF, turnF2, turnK, keyOk, ckDic, lim_eq, itemsOf_sq, seqOf_sq, len_sq, tup_sq, idx_sq, at0, at1, at2, upF, c0, tyOf]
theorem tp_sq {α : Type} {m : Nat} {b : Bool} {xs : List α} {g' h : α → D} {s : Bx} (hx : ∀ x ∈ xs, Tp m [.dat (g' x)] s = .ok (h x) s) (hl : xs.length ≤ 16777216) : Tp (m + 1) [.dat (sq b (xs.map g'))] s = .ok (.tuple (xs.map h)) s := by
  have hc : ev (upF Fs0 0 (Tp m)) Cn (.comp (.call 0 (.cons (.slot 1) .nil)) [1] (.nm 1) (.ex (.slot 0)) .no) [.dat (sq b (xs.map g')), .un] s = .ok (.list (xs.map h)) s :=
    comp_map (g' := g') (h := h) (by simp [ev, evs, evas, evp, evo, evc, evAnd, evOr, evIt, exS, exB, ↓bind_eq, ↓lft_eq, ↓seq_eq, ↓turn_eq, ↓quiet_eq, pure_eq, go_eq, some_eq, none_eq, ↓run_eq, getSlot, isOwn, anyOwn, itOwn, ownAs, eoOwn, ↓tr_eq, truth, bindTg, Pd.bindAll, wipeE, ckLim, ckTup, startE, slotOf, freeze, srcSlot, atOwn, setPar, evPar, frM, frD, turnF, turnF2, turnK, keyOk, ckDic, lim_eq, itemsOf_sq, seqOf_sq, len_sq, tup_sq, idx_sq, at0, at1, at2, upF]) (by rfl) (fun x hm => by
      simp [ev, evs, evas, evp, evo, evc, evAnd, evOr, evIt, exS, exB, ↓bind_eq, ↓lft_eq, ↓seq_eq, ↓turn_eq, ↓quiet_eq, pure_eq, go_eq, some_eq, none_eq, ↓run_eq, getSlot, isOwn, anyOwn, itOwn, ownAs, eoOwn, ↓tr_eq, truth, bindTg, Pd.bindAll, wipeE, ckLim, ckTup, startE, slotOf, freeze, srcSlot, atOwn, setPar, evPar, frM, frD, turnF, turnF2, turnK, keyOk, ckDic, lim_eq, itemsOf_sq, seqOf_sq, len_sq, tup_sq, idx_sq, at0, at1, at2, upF, hx x hm]) hl
  have e : Tp (m + 1) = runFn (upF Fs0 0 (Tp m)) Cn 2 1 c0 := rfl
  rw [e]
  simp [ev, evs, evas, evp, evo, evc, evAnd, evOr, evIt, exS, exB, ↓bind_eq, ↓lft_eq, ↓seq_eq, ↓turn_eq, ↓quiet_eq, pure_eq, go_eq, some_eq, none_eq, ↓run_eq, getSlot, isOwn, anyOwn, itOwn, ownAs, eoOwn, ↓tr_eq, truth, bindTg, Pd.bindAll, wipeE, ckLim, ckTup, startE, slotOf, freeze, srcSlot, atOwn, setPar, evPar, frM, frD, turnF, turnF2, turnK, keyOk, ckDic, lim_eq, itemsOf_sq, seqOf_sq, len_sq, tup_sq, idx_sq, at0, at1, at2, upF, c0, ↓hc, biD, tyL, tyT]
theorem f0 {b : Bool} {xs : List Str} (hl : xs.length ≤ 16777216) (s : Bx) : F0 [.dat (sq b (nD xs))] s = .ok (.tuple (nD xs)) s := tp_sq (m := 7) (fun x _ => tp_str 6 x s) hl
structure Hp where
  objs : List Str
  ptr : List (Str × Str)
  roots : List Str
def pD (b : Bool) (p : Str × Str) : D := sq b [.str p.1, .str p.2]
def hD (b : Bool) (h : Hp) : D := sq b [sq b (nD h.objs), sq b (h.ptr.map (pD b)), sq b (nD h.roots)]
def lexP (p q : Str × Str) : Prop := ltS p.1 q.1 ∨ (p.1 = q.1 ∧ ltS p.2 q.2)
structure Ok (h : Hp) : Prop where
  str : Oks h.objs
  srt : h.objs.Pairwise ltS
  len : h.objs.length ≤ 5
  pin : ∀ p ∈ h.ptr, p.1 ∈ h.objs ∧ p.2 ∈ h.objs
  plen : h.ptr.length ≤ 25
  plex : h.ptr.Pairwise lexP
  rin : h.roots.Sublist h.objs
def tos (h : Hp) (x : Str) : List Str := (h.ptr.filter fun p => decide (p.1 = x)).map (·.2)
def froms (h : Hp) (x : Str) : List Str := (h.ptr.filter fun p => decide (p.2 = x)).map (·.1)
section
variable {h : Hp} (o : Ok h) (b : Bool) (s : Bx)
include o
theorem Ok.nd : h.objs.Nodup := o.srt.imp fun {a b} (l : ltS a b) (e : a = b) => lt_irrefl (.str a) (by subst e; exact l)
theorem tos_in (x : Str) : ∀ y ∈ tos h x, y ∈ h.objs := fun y hy => by
  obtain ⟨p, hp, rfl⟩ := List.mem_map.mp hy
  exact (o.pin p (List.mem_filter.mp hp).1).2
theorem froms_in (x : Str) : ∀ y ∈ froms h x, y ∈ h.objs := fun y hy => by
  obtain ⟨p, hp, rfl⟩ := List.mem_map.mp hy
  exact (o.pin p (List.mem_filter.mp hp).1).1
theorem tos_len (x : Str) : (tos h x).length ≤ 25 := by
  have := List.length_filter_le (fun p => decide (p.1 = x)) h.ptr
  have := o.plen
  unfold tos
  rw [List.length_map]
  omega
theorem froms_len (x : Str) : (froms h x).length ≤ 25 := by
  have := List.length_filter_le (fun p => decide (p.2 = x)) h.ptr
  have := o.plen
  unfold froms
  rw [List.length_map]
  omega
theorem f3 {x : Str} (hx : x ∈ h.objs) : F3 [.dat (hD b h), .dat (.list [.str x])] s = .ok .none s := by
  have i := inD_sq (b := b) (o.str x hx) o.str
  simp [F3, runRec, ev, evs, evas, evp, evo, evc, evAnd, evOr, evIt, exS, exB, ↓bind_eq, ↓lft_eq, ↓seq_eq, ↓turn_eq, ↓quiet_eq, pure_eq, go_eq, some_eq, none_eq, ↓run_eq, getSlot, isOwn, anyOwn, itOwn, ownAs, eoOwn, ↓tr_eq, truth, bindTg, Pd.bindAll, wipeE, ckLim, ckTup, startE, slotOf, freeze, srcSlot, atOwn, setPar, evPar, frM, frD, turnF, turnF2, turnK, keyOk, ckDic, lim_eq, itemsOf_sq, seqOf_sq, len_sq, tup_sq, idx_sq, at0, at1, at2, upF, c3, frL, hD, itemsOf, cmpD, i, hx]
theorem f4 : F4 [.dat (hD b h)] s = .ok (.dict (h.objs.map fun x => (.str x, .list (nD (tos h x))))) s := by
  have hc : ∀ Φ, ∀ x ∈ h.objs, ev Φ Cn (.comp (.slot 3) [2, 3] (.tp [2, 3]) (.ex (.idx (.slot 0) (.lit (.int 1)))) (.so (.cmp .Eq (.slot 2) (.slot 1)))) [.dat (hD b h), .dat (.str x), .un, .un] s = .ok (.list (nD (tos h x))) s := fun Φ x hx => by
    have := comp_if (Φ := Φ) (C := Cn) (elt := .slot 3) (c := .so (.cmp .Eq (.slot 2) (.slot 1))) (own := [2, 3]) (tg := .tp [2, 3]) (it := .ex (.idx (.slot 0) (.lit (.int 1)))) (ρ := [.dat (hD b h), .dat (.str x), .un, .un]) (s := s) (s1 := s) (xs := h.ptr) (g' := pD b) (h := fun p => .str p.2) (p := fun p => p.1 = x) (by simp [ev, evs, evas, evp, evo, evc, evAnd, evOr, evIt, exS, exB, ↓bind_eq, ↓lft_eq, ↓seq_eq, ↓turn_eq, ↓quiet_eq, pure_eq, go_eq, some_eq, none_eq, ↓run_eq, getSlot, isOwn, anyOwn, itOwn, ownAs, eoOwn, ↓tr_eq, truth, bindTg, Pd.bindAll, wipeE, ckLim, ckTup, startE, slotOf, freeze, srcSlot, atOwn, setPar, evPar, frM, frD, turnF, turnF2, turnK, keyOk, ckDic, lim_eq, itemsOf_sq, seqOf_sq, len_sq, tup_sq, idx_sq, at0, at1, at2, upF, hD]) (by rfl) (fun p hp => by
      by_cases e : p.1 = x <;> cases b <;> simp [ev, evs, evas, evp, evo, evc, evAnd, evOr, evIt, exS, exB, ↓bind_eq, ↓lft_eq, ↓seq_eq, ↓turn_eq, ↓quiet_eq, pure_eq, go_eq, some_eq, none_eq, ↓run_eq, getSlot, isOwn, anyOwn, itOwn, ownAs, eoOwn, ↓tr_eq, truth, bindTg, Pd.bindAll, wipeE, ckLim, ckTup, startE, slotOf, freeze, srcSlot, atOwn, setPar, evPar, frM, frD, turnF, turnF2, turnK, keyOk, ckDic, lim_eq, itemsOf_sq, seqOf_sq, len_sq, tup_sq, idx_sq, at0, at1, at2, upF, cmpD, eqD, pD, sq, e]) (by have := o.plen; omega)
    rw [this]
    simp [tos, nD]
  have hd : ∀ Φ, ev Φ Cn (.dcomp (.slot 1) (.comp (.slot 3) [2, 3] (.tp [2, 3]) (.ex (.idx (.slot 0) (.lit (.int 1)))) (.so (.cmp .Eq (.slot 2) (.slot 1)))) [1] (.nm 1) (.ex (.idx (.slot 0) (.lit (.int 0)))) .no) [.dat (hD b h), .un, .un, .un] s = .ok (.dict (h.objs.map fun x => (.str x, .list (nD (tos h x))))) s := fun Φ =>
    dcomp_map (g' := .str) (by simp [ev, evs, evas, evp, evo, evc, evAnd, evOr, evIt, exS, exB, ↓bind_eq, ↓lft_eq, ↓seq_eq, ↓turn_eq, ↓quiet_eq, pure_eq, go_eq, some_eq, none_eq, ↓run_eq, getSlot, isOwn, anyOwn, itOwn, ownAs, eoOwn, ↓tr_eq, truth, bindTg, Pd.bindAll, wipeE, ckLim, ckTup, startE, slotOf, freeze, srcSlot, atOwn, setPar, evPar, frM, frD, turnF, turnF2, turnK, keyOk, ckDic, lim_eq, itemsOf_sq, seqOf_sq, len_sq, tup_sq, idx_sq, at0, at1, at2, upF, hD, nD]) (by rfl) (fun x hx => by simp [ev, evs, evas, evp, evo, evc, evAnd, evOr, evIt, exS, exB, ↓bind_eq, ↓lft_eq, ↓seq_eq, ↓turn_eq, ↓quiet_eq, pure_eq, go_eq, some_eq, none_eq, ↓run_eq, getSlot, isOwn, anyOwn, itOwn, ownAs, eoOwn, ↓tr_eq, truth, bindTg, Pd.bindAll, wipeE, ckLim, ckTup, startE, slotOf, freeze, srcSlot, atOwn, setPar, evPar, frM, frD, turnF, turnF2, turnK, keyOk, ckDic, lim_eq, itemsOf_sq, seqOf_sq, len_sq, tup_sq, idx_sq, at0, at1, at2, upF, ↓hc Φ x hx]) (by have := o.len; omega) (by
      rw [List.map_map]
      exact cps_nodup o.nd)
  simp [F4, runRec, ev, evs, evas, evp, evo, evc, evAnd, evOr, evIt, exS, exB, ↓bind_eq, ↓lft_eq, ↓seq_eq, ↓turn_eq, ↓quiet_eq, pure_eq, go_eq, some_eq, none_eq, ↓run_eq, getSlot, isOwn, anyOwn, itOwn, ownAs, eoOwn, ↓tr_eq, truth, bindTg, Pd.bindAll, wipeE, ckLim, ckTup, startE, slotOf, freeze, srcSlot, atOwn, setPar, evPar, frM, frD, turnF, turnF2, turnK, keyOk, ckDic, lim_eq, itemsOf_sq, seqOf_sq, len_sq, tup_sq, idx_sq, at0, at1, at2, upF, c4, ↓hd]
end
end K02M
end
section
/-! K02: rounds, what is reached. -/
namespace K02M
open PySem PyProof.Rows Pd Pm K02
def nxt (h : Hp) (fresh seen : List Str) : List Str := (ss (fresh.flatMap (tos h))).filter fun x => decide (x ∉ seen)
def rnd (h : Hp) : Nat → List Str → List Str → List (List Str)
  | 0, _, _ => []
  | n + 1, fresh, seen => if fresh = [] then [] else fresh :: rnd h n (nxt h fresh (seen ++ fresh)) (seen ++ fresh)
structure Inv (h : Hp) (fresh seen : List Str) : Prop where
  nd : (seen ++ fresh).Nodup
  sub : ∀ x ∈ seen ++ fresh, x ∈ h.objs
def tD (xs : List Str) : D := .tuple (nD xs)
def near (h : Hp) : D := .dict (h.objs.map fun x => (.str x, .list (nD (tos h x))))
def E5 (b : Bool) (h : Hp) (found : List (List Str)) (fresh seen : List Str) : Pd.Env := [.dat (hD b h), .dat (near h), .own (found.map tD), .dat (tD fresh), .own (nD seen), .un, .un]
def w5 : Ex := .cmp .Gt (.bi .len (.slot 3)) (.lit (.int 0))
def b5 : Stas := (.cons (.app 2 (.slot 3))
  (.cons (.ext 4 (.slot 3))
  (.cons (.asg 3 (.call 2 (.cons (.call 1 (.cons (.comp2 (.slot 6) [5, 6] [6] (.nm 5) (.ex (.slot 3)) .no (.nm 6) (.ex (.idx (.slot 1) (.slot 5))) .no) .nil)) (.cons (.slot 4) .nil))))
  .nil)))
def Φ5 : Nat → Fn := upF Fs5 5 badF
section
variable {h : Hp} (o : Ok h) (b : Bool) (s : Bx)
include o
theorem Inv.len {fresh seen : List Str} (i : Inv h fresh seen) : seen.length + fresh.length ≤ h.objs.length := by
  have := nodup_len i.nd i.sub
  rwa [List.length_append] at this
theorem nxt_nodup (fresh seen : List Str) : (nxt h fresh seen).Nodup := (ss_nodup _).filter _
theorem Inv.nxt {fresh seen : List Str} (i : Inv h fresh seen) : Inv h (nxt h fresh (seen ++ fresh)) (seen ++ fresh) := by
  refine ⟨List.nodup_append.mpr ⟨i.nd, nxt_nodup o _ _, fun x hx y hy e => ?_⟩, fun x hx => ?_⟩
  · subst e
    have := (List.mem_filter.mp hy).2
    simp only [decide_eq_true_eq] at this
    exact this hx
  · rcases List.mem_append.mp hx with hx | hx
    · exact i.sub x hx
    · obtain ⟨z, _, hz⟩ := List.mem_flatMap.mp (mem_ss.mp (List.mem_filter.mp hx).1)
      exact tos_in o z x hz
theorem step5 {found : List (List Str)} {fresh seen : List Str} (i : Inv h fresh seen) (hf : found.length < 5000) : exB Φ5 Cn b5 (E5 b h found fresh seen) s = .go .nx (E5 b h (found ++ [fresh]) (K02M.nxt h fresh (seen ++ fresh)) (seen ++ fresh)) s := by
  have hl := i.len o
  have ho := o.len
  have hin : ∀ x ∈ fresh, x ∈ h.objs := fun x hx => i.sub x (List.mem_append_right _ hx)
  have hb : (fresh.flatMap (tos h)).length < 4000 := by
    have := flat_len (f := tos h) (k := 25) (xs := fresh) fun x _ => tos_len o x
    omega
  have hc : ∀ Φ own1 own2, ev Φ Cn (.comp2 (.slot 6) [5, 6] [6] (.nm 5) (.ex (.slot 3)) .no (.nm 6) (.ex (.idx (.slot 1) (.slot 5))) .no) [.dat (hD b h), .dat (near h), .own own1, .dat (tD fresh), .own own2, .un, .un] s = .ok (sq false (nD (fresh.flatMap (tos h)))) s := fun Φ own1 own2 => by
    have := comp2_ok (Φ := Φ) (C := Cn) (elt := .slot 6) (own := [5, 6]) (own1 := [6]) (tg := .nm 5) (it := .ex (.slot 3)) (c := .no) (tg1 := .nm 6) (it1 := .ex (.idx (.slot 1) (.slot 5))) (c1 := .no) (ρ := [.dat (hD b h), .dat (near h), .own own1, .dat (tD fresh), .own own2, .un, .un]) (s := s) (s1 := s) (xs := fresh) (g' := .str) (h := fun x => nD (tos h x)) (by simp [ev, evs, evas, evp, evo, evc, evAnd, evOr, evIt, exS, exB, ↓bind_eq, ↓lft_eq, ↓seq_eq, ↓turn_eq, ↓quiet_eq, pure_eq, go_eq, some_eq, none_eq, ↓run_eq, getSlot, isOwn, anyOwn, itOwn, ownAs, eoOwn, ↓tr_eq, truth, bindTg, Pd.bindAll, wipeE, ckLim, ckTup, startE, slotOf, freeze, srcSlot, atOwn, setPar, evPar, frM, frD, turnF, turnF2, turnK, keyOk, ckDic, lim_eq, itemsOf_sq, seqOf_sq, len_sq, tup_sq, idx_sq, at0, at1, at2, upF, tD, itemsOf, nD]) (by rfl) (fun x hx => by
      have e1 := lookS_map (f := fun y => .list (nD (tos h y))) (hin x hx)
      have e2 := collect_ok (s := s) (f := turnF (.nm 6) [6] (fun ρ' => evc Φ Cn .no ρ') (fun ρ' => ev Φ Cn (.slot 6) ρ') (fun ρ' => isOwn ρ' (.slot 6)) [.dat (hD b h), .dat (near h), .own own1, .dat (tD fresh), .own own2, .dat (.str x), .un]) (g := .str) (h := fun y => some (.str y)) (xs := tos h x) fun y hy => by simp [ev, evs, evas, evp, evo, evc, evAnd, evOr, evIt, exS, exB, ↓bind_eq, ↓lft_eq, ↓seq_eq, ↓turn_eq, ↓quiet_eq, pure_eq, go_eq, some_eq, none_eq, ↓run_eq, getSlot, isOwn, anyOwn, itOwn, ownAs, eoOwn, ↓tr_eq, truth, bindTg, Pd.bindAll, wipeE, ckLim, ckTup, startE, slotOf, freeze, srcSlot, atOwn, setPar, evPar, frM, frD, turnF, turnF2, turnK, keyOk, ckDic, lim_eq, itemsOf_sq, seqOf_sq, len_sq, tup_sq, idx_sq, at0, at1, at2, upF]
      rw [List.filterMap_eq_map'] at e2
      simp only [evc, ev, isOwn] at e2
      simp [ev, evs, evas, evp, evo, evc, evAnd, evOr, evIt, exS, exB, ↓bind_eq, ↓lft_eq, ↓seq_eq, ↓turn_eq, ↓quiet_eq, pure_eq, go_eq, some_eq, none_eq, ↓run_eq, getSlot, isOwn, anyOwn, itOwn, ownAs, eoOwn, ↓tr_eq, truth, bindTg, Pd.bindAll, wipeE, ckLim, ckTup, startE, slotOf, freeze, srcSlot, atOwn, setPar, evPar, frM, frD, turnF, turnF2, turnK, keyOk, ckDic, lim_eq, itemsOf_sq, seqOf_sq, len_sq, tup_sq, idx_sq, at0, at1, at2, upF, near, idxD, e1, itemsOf]
      exact e2) (by
        have := flat_len (f := fun x => nD (tos h x)) (k := 25) (xs := fresh) fun x _ => by
          simp only [nD, List.length_map]
          exact tos_len o x
        omega)
    rw [this]
    simp [sq, nD, List.map_flatMap]
  have hs : ∀ x ∈ seen ++ fresh, PyData.strOk x = true := fun x hx => o.str x (i.sub x hx)
  have h1 : Oks (fresh.flatMap (tos h)) := fun x hx => by
    obtain ⟨z, _, hz⟩ := List.mem_flatMap.mp hx
    exact o.str x (tos_in o z x hz)
  have h2 : Oks (ss (fresh.flatMap (tos h))) := fun x hx => h1 x (mem_ss.mp hx)
  have l2 : (ss (fresh.flatMap (tos h))).length < 4000 := Nat.lt_of_le_of_lt ss_len hb
  have e1 := f1 (b := false) h1 hb s
  have e2 := f2 h2 hs l2 true false s
  have e1 : F1 [.dat (.list (nD (fresh.flatMap (tos h))))] s = .ok (.tuple (nD (ss (fresh.flatMap (tos h))))) s := f1 (b := false) h1 hb s
  have e2 : F2 [.dat (.tuple (nD (ss (fresh.flatMap (tos h))))), .dat (.list (nD (seen ++ fresh)))] s = .ok (tD (K02M.nxt h fresh (seen ++ fresh))) s := f2 h2 hs l2 true false s
  have hc : ∀ Φ own1 own2, ev Φ Cn (.comp2 (.slot 6) [5, 6] [6] (.nm 5) (.ex (.slot 3)) .no (.nm 6) (.ex (.idx (.slot 1) (.slot 5))) .no) [.dat (hD b h), .dat (near h), .own own1, .dat (tD fresh), .own own2, .un, .un] s = .ok (.list (nD (fresh.flatMap (tos h)))) s := hc
  have q1 : found.length < 16777216 := by omega
  have q2 : seen.length + fresh.length ≤ 16777216 := by omega
  have q4 : ∀ xs, noL (tD xs) = true := noL_tup
  have q3 : seqOf (tD fresh) = some (nD fresh) := rfl
  simp [b5, E5, ev, evs, evas, evp, evo, evc, evAnd, evOr, evIt, exS, exB, ↓bind_eq, ↓lft_eq, ↓seq_eq, ↓turn_eq, ↓quiet_eq, pure_eq, go_eq, some_eq, none_eq, ↓run_eq, getSlot, isOwn, anyOwn, itOwn, ownAs, eoOwn, ↓tr_eq, truth, bindTg, Pd.bindAll, wipeE, ckLim, ckTup, startE, slotOf, freeze, srcSlot, atOwn, setPar, evPar, frM, frD, turnF, turnF2, turnK, keyOk, ckDic, lim_eq, itemsOf_sq, seqOf_sq, len_sq, tup_sq, idx_sq, at0, at1, at2, upF, Φ5, Fs5, Fs4, Fs3, Fs2, Fs1, Fs0, q3, q1, q2, ↓hc, e1, e2, nD_app, nD_len, ↓noLk_eq, q4]
theorem loop5 : ∀ (n N : Nat) {found : List (List Str)} {fresh seen : List Str}, Inv h fresh seen → h.objs.length < n + seen.length → n ≤ N → found.length + n ≤ 5000 → ∃ fresh' seen', whL (fun ρ => trM (ev Φ5 Cn w5 ρ)) (exB Φ5 Cn b5) N (E5 b h found fresh seen) s = .go .nx (E5 b h (found ++ rnd h n fresh seen) fresh' seen') s
  | 0, _, found, fresh, seen, i, hm, _, _ => by
    have := i.len o
    omega
  | n + 1, 0, _, _, _, _, _, hN, _ => by omega
  | n + 1, N + 1, found, fresh, seen, i, hm, hN, hf => by
    have hl : biD .len (tD fresh) = some (.int fresh.length) := by
      show some (PyData.int (nD fresh).length) = _
      rw [nD_len]
    by_cases e : fresh = []
    · refine ⟨fresh, seen, ?_⟩
      rw [rnd, if_pos e, List.append_nil, whL, lft_eq]
      have : trM (ev Φ5 Cn w5 (E5 b h found fresh seen)) s = .ok false s := by
        subst e
        simp [w5, E5, ev, evs, evas, evp, evo, evc, evAnd, evOr, evIt, exS, exB, ↓bind_eq, ↓lft_eq, ↓seq_eq, ↓turn_eq, ↓quiet_eq, pure_eq, go_eq, some_eq, none_eq, ↓run_eq, getSlot, isOwn, anyOwn, itOwn, ownAs, eoOwn, ↓tr_eq, truth, bindTg, Pd.bindAll, wipeE, ckLim, ckTup, startE, slotOf, freeze, srcSlot, atOwn, setPar, evPar, frM, frD, turnF, turnF2, turnK, keyOk, ckDic, lim_eq, itemsOf_sq, seqOf_sq, len_sq, tup_sq, idx_sq, at0, at1, at2, upF, hl, cmpD]
      rw [this]
      rfl
    · have pos : 0 < fresh.length := List.length_pos_iff.mpr e
      have := i.len o
      obtain ⟨f', s', hr⟩ := loop5 n N (found := found ++ [fresh]) (Inv.nxt o i) (by rw [List.length_append]; omega) (by omega) (by rw [List.length_append, List.length_singleton]; omega)
      refine ⟨f', s', ?_⟩
      rw [rnd, if_neg e, whL, lft_eq]
      have ht : trM (ev Φ5 Cn w5 (E5 b h found fresh seen)) s = .ok true s := by simp [w5, E5, ev, evs, evas, evp, evo, evc, evAnd, evOr, evIt, exS, exB, ↓bind_eq, ↓lft_eq, ↓seq_eq, ↓turn_eq, ↓quiet_eq, pure_eq, go_eq, some_eq, none_eq, ↓run_eq, getSlot, isOwn, anyOwn, itOwn, ownAs, eoOwn, ↓tr_eq, truth, bindTg, Pd.bindAll, wipeE, ckLim, ckTup, startE, slotOf, freeze, srcSlot, atOwn, setPar, evPar, frM, frD, turnF, turnF2, turnK, keyOk, ckDic, lim_eq, itemsOf_sq, seqOf_sq, len_sq, tup_sq, idx_sq, at0, at1, at2, upF, hl, cmpD, pos]
      rw [ht]
      show SM.turn (exB Φ5 Cn b5 (E5 b h found fresh seen)) _ s = _
      rw [turn_eq, step5 o b s i (by omega)]
      show whL _ _ N _ s = _
      rw [hr]
      simp
def laps (h : Hp) : List (List Str) := rnd h (h.objs.length + 1) h.roots []
theorem inv0 : Inv h h.roots [] := ⟨o.nd.sublist o.rin, fun x hx => o.rin.subset hx⟩
theorem f5 : F5 [.dat (hD b h)] s = .ok (.tuple ((laps h).map tD)) s := by
  have hl := o.len
  have hrl : h.roots.length ≤ 5 := Nat.le_trans o.rin.length_le hl
  obtain ⟨f', s', hr⟩ := loop5 o b s (h.objs.length + 1) fuel (found := []) (inv0 o) (by simp) (by unfold fuel; omega) (by simp; omega)
  have e4 : F4 [.dat (hD b h)] s = .ok (near h) s := f4 o b s
  have e0 : F0 [.dat (sq b (nD h.roots))] s = .ok (tD h.roots) s := f0 (by omega) s
  have i2 : idxD (hD b h) (.int 2) = some (sq b (nD h.roots)) := by simp [hD, ev, evs, evas, evp, evo, evc, evAnd, evOr, evIt, exS, exB, ↓bind_eq, ↓lft_eq, ↓seq_eq, ↓turn_eq, ↓quiet_eq, pure_eq, go_eq, some_eq, none_eq, ↓run_eq, getSlot, isOwn, anyOwn, itOwn, ownAs, eoOwn, ↓tr_eq, truth, bindTg, Pd.bindAll, wipeE, ckLim, ckTup, startE, slotOf, freeze, srcSlot, atOwn, setPar, evPar, frM, frD, turnF, turnF2, turnK, keyOk, ckDic, lim_eq, itemsOf_sq, seqOf_sq, len_sq, tup_sq, idx_sq, at0, at1, at2, upF]
  have hr : whL (fun ρ => trM (ev Φ5 Cn w5 ρ)) (exB Φ5 Cn b5) fuel [.dat (hD b h), .dat (near h), .own [], .dat (tD h.roots), .own [], .un, .un] s = .go .nx (E5 b h (laps h) f' s') s := hr
  have ec : c5 = (.cons (.par [(1, false), (2, true), (3, false), (4, true)] (.cons (.call 4 (.cons (.slot 0) .nil)) (.cons (.lst .nil) (.cons (.call 0 (.cons (.idx (.slot 0) (.lit (.int 2))) .nil)) (.cons (.lst .nil) .nil)))))
  (.cons (.wh w5 b5)
  (.cons (.ret (.bi .tuple (.slot 2)))
  .nil))) := rfl
  have ht : biD .tuple (.list ((laps h).map tD)) = some (.tuple ((laps h).map tD)) := rfl
  have p4 : Φ5 4 = F4 := rfl
  have p0 : Φ5 0 = F0 := rfl
  show runFn Φ5 Cn 7 1 c5 [.dat (hD b h)] s = _
  simp [ec, ev, evs, evas, evp, evo, evc, evAnd, evOr, evIt, exS, exB, ↓bind_eq, ↓lft_eq, ↓seq_eq, ↓turn_eq, ↓quiet_eq, pure_eq, go_eq, some_eq, none_eq, ↓run_eq, getSlot, isOwn, anyOwn, itOwn, ownAs, eoOwn, ↓tr_eq, truth, bindTg, Pd.bindAll, wipeE, ckLim, ckTup, startE, slotOf, freeze, srcSlot, atOwn, setPar, evPar, frM, frD, turnF, turnF2, turnK, keyOk, ckDic, lim_eq, itemsOf_sq, seqOf_sq, len_sq, tup_sq, idx_sq, at0, at1, at2, upF, p4, p0, e4, e0, i2, hr, E5, ht]
end
end K02M
end
section
/-! K02: what is reached, what points where. -/
namespace K02M
open PySem PyProof.Rows Pd Pm K02
section
variable {h : Hp} (o : Ok h) (b : Bool) (s : Bx)
include o
theorem rnd_flat : ∀ (n : Nat) {fresh seen : List Str}, Inv h fresh seen → (rnd h n fresh seen).flatten.Nodup ∧ ∀ x ∈ (rnd h n fresh seen).flatten, x ∈ h.objs ∧ x ∉ seen
  | 0, _, _, _ => ⟨List.nodup_nil, fun x hx => absurd hx (List.not_mem_nil)⟩
  | n + 1, fresh, seen, i => by
    obtain ⟨h1, h2⟩ := rnd_flat n (Inv.nxt o i)
    by_cases e : fresh = []
    · rw [rnd, if_pos e]
      exact ⟨List.nodup_nil, fun x hx => absurd hx (List.not_mem_nil)⟩
    · rw [rnd, if_neg e, List.flatten_cons]
      obtain ⟨n1, n2, n3⟩ := List.nodup_append.mp i.nd
      refine ⟨List.nodup_append.mpr ⟨n2, h1, fun x hx y hy e => ?_⟩, fun x hx => ?_⟩
      · subst e
        exact (h2 x hy).2 (List.mem_append_right _ hx)
      · rcases List.mem_append.mp hx with hx | hx
        · exact ⟨i.sub x (List.mem_append_right _ hx), fun hs => n3 x hs x hx rfl⟩
        · exact ⟨(h2 x hx).1, fun hs => (h2 x hx).2 (List.mem_append_left _ hs)⟩
theorem laps_nodup : (laps h).flatten.Nodup := (rnd_flat o _ (inv0 o)).1
theorem laps_in : ∀ x ∈ (laps h).flatten, x ∈ h.objs := fun x hx => ((rnd_flat o _ (inv0 o)).2 x hx).1
theorem laps_flat : (laps h).flatten.length ≤ 5 := Nat.le_trans (nodup_len (laps_nodup o) (laps_in o)) o.len
theorem rnd_len : ∀ (n : Nat) (fresh seen : List Str), (rnd h n fresh seen).length ≤ n
  | 0, _, _ => Nat.le_refl _
  | n + 1, fresh, seen => by
    rw [rnd]
    split
    · exact Nat.zero_le _
    · rw [List.length_cons]
      have := rnd_len n (nxt h fresh (seen ++ fresh)) (seen ++ fresh)
      omega
theorem laps_len : (laps h).length ≤ 6 := by
  have := rnd_len o (h.objs.length + 1) h.roots []
  have := o.len
  unfold laps
  omega
def Φ6 : Nat → Fn := upF Fs6 6 badF
def x6 : Ex := .comp2 (.slot 2) [1, 2] [2] (.nm 1) (.ex (.call 5 (.cons (.slot 0) .nil))) .no (.nm 2) (.ex (.slot 1)) .no
theorem f6 : F6 [.dat (hD b h)] s = .ok (tD (ss (laps h).flatten)) s := by
  have p5 : Φ6 5 = F5 := rfl
  have p1 : Φ6 1 = F1 := rfl
  have e5 := f5 o b s
  have ef : ((laps h).flatMap nD) = nD (laps h).flatten := by
    show (List.map nD _).flatten = List.map _ (List.flatten _)
    rw [List.map_flatten]
    rfl
  have hc : ev Φ6 Cn x6 [.dat (hD b h), .un, .un] s = .ok (.list (nD (laps h).flatten)) s := by
    have := comp2_ok (Φ := Φ6) (C := Cn) (elt := .slot 2) (own := [1, 2]) (own1 := [2]) (tg := .nm 1) (it := .ex (.call 5 (.cons (.slot 0) .nil))) (c := .no) (tg1 := .nm 2) (it1 := .ex (.slot 1)) (c1 := .no) (ρ := [.dat (hD b h), .un, .un]) (s := s) (s1 := s) (xs := laps h) (g' := tD) (h := nD) (by simp [ev, evs, evas, evp, evo, evc, evAnd, evOr, evIt, exS, exB, ↓bind_eq, ↓lft_eq, ↓seq_eq, ↓turn_eq, ↓quiet_eq, pure_eq, go_eq, some_eq, none_eq, ↓run_eq, getSlot, isOwn, anyOwn, itOwn, ownAs, eoOwn, ↓tr_eq, truth, bindTg, Pd.bindAll, wipeE, ckLim, ckTup, startE, slotOf, freeze, srcSlot, atOwn, setPar, evPar, frM, frD, turnF, turnF2, turnK, keyOk, ckDic, lim_eq, itemsOf_sq, seqOf_sq, len_sq, tup_sq, idx_sq, at0, at1, at2, upF, p5, e5, itemsOf]) (by rfl) (fun x hx => by
      have e2 := collect_ok (s := s) (f := turnF (.nm 2) [2] (fun ρ' => evc Φ6 Cn .no ρ') (fun ρ' => ev Φ6 Cn (.slot 2) ρ') (fun ρ' => isOwn ρ' (.slot 2)) [.dat (hD b h), .dat (tD x), .un]) (g := .str) (h := fun y => some (.str y)) (xs := x) fun y hy => by simp [ev, evs, evas, evp, evo, evc, evAnd, evOr, evIt, exS, exB, ↓bind_eq, ↓lft_eq, ↓seq_eq, ↓turn_eq, ↓quiet_eq, pure_eq, go_eq, some_eq, none_eq, ↓run_eq, getSlot, isOwn, anyOwn, itOwn, ownAs, eoOwn, ↓tr_eq, truth, bindTg, Pd.bindAll, wipeE, ckLim, ckTup, startE, slotOf, freeze, srcSlot, atOwn, setPar, evPar, frM, frD, turnF, turnF2, turnK, keyOk, ckDic, lim_eq, itemsOf_sq, seqOf_sq, len_sq, tup_sq, idx_sq, at0, at1, at2, upF]
      rw [List.filterMap_eq_map'] at e2
      simp only [evc, ev, isOwn] at e2
      have e3 : itemsOf (tD x) = some (nD x) := rfl
      simp [ev, evs, evas, evp, evo, evc, evAnd, evOr, evIt, exS, exB, ↓bind_eq, ↓lft_eq, ↓seq_eq, ↓turn_eq, ↓quiet_eq, pure_eq, go_eq, some_eq, none_eq, ↓run_eq, getSlot, isOwn, anyOwn, itOwn, ownAs, eoOwn, ↓tr_eq, truth, bindTg, Pd.bindAll, wipeE, ckLim, ckTup, startE, slotOf, freeze, srcSlot, atOwn, setPar, evPar, frM, frD, turnF, turnF2, turnK, keyOk, ckDic, lim_eq, itemsOf_sq, seqOf_sq, len_sq, tup_sq, idx_sq, at0, at1, at2, upF, e3]
      exact e2) (by
        rw [ef, nD_len]
        have := laps_flat o
        omega)
    rw [ef] at this
    exact this
  have e1 : F1 [.dat (.list (nD (laps h).flatten))] s = .ok (tD (ss (laps h).flatten)) s := f1 (b := false) (fun x hx => o.str x (laps_in o x hx)) (by have := laps_flat o; omega) s
  have ec : c6 = (.cons (.ret (.call 1 (.cons x6 .nil))) .nil) := rfl
  show runFn Φ6 Cn 3 1 c6 [.dat (hD b h)] s = _
  have i6 : ∀ ρ, isOwn ρ x6 = false := fun _ => rfl
  simp [ec, ev, evs, evas, evp, evo, evc, evAnd, evOr, evIt, exS, exB, ↓bind_eq, ↓lft_eq, ↓seq_eq, ↓turn_eq, ↓quiet_eq, pure_eq, go_eq, some_eq, none_eq, ↓run_eq, getSlot, isOwn, anyOwn, itOwn, ownAs, eoOwn, ↓tr_eq, truth, bindTg, Pd.bindAll, wipeE, ckLim, ckTup, startE, slotOf, freeze, srcSlot, atOwn, setPar, evPar, frM, frD, turnF, turnF2, turnK, keyOk, ckDic, lim_eq, itemsOf_sq, seqOf_sq, len_sq, tup_sq, idx_sq, at0, at1, at2, upF, p1, hc, e1, i6]
theorem tos_srt (x : Str) : (tos h x).Pairwise ltS := by
  refine List.pairwise_map.mpr ((o.plex.filter _).imp_of_mem fun {p q} hp hq l => ?_)
  have e1 := (List.mem_filter.mp hp).2
  have e2 := (List.mem_filter.mp hq).2
  simp only [decide_eq_true_eq] at e1 e2
  rcases l with l | l
  · rw [e1, e2] at l
    exact absurd l (lt_irrefl _)
  · exact l.2
theorem froms_srt (x : Str) : (froms h x).Pairwise ltS := by
  refine List.pairwise_map.mpr ((o.plex.filter _).imp_of_mem fun {p q} hp hq l => ?_)
  have e1 := (List.mem_filter.mp hp).2
  have e2 := (List.mem_filter.mp hq).2
  simp only [decide_eq_true_eq] at e1 e2
  rcases l with l | l
  · exact l
  · have := l.2
    rw [e1, e2] at this
    exact absurd this (lt_irrefl _)
theorem f7 {x : Str} (hx : x ∈ h.objs) : F7 [.dat (hD b h), .dat (.str x)] s = .ok (tD (tos h x)) s := by
  have p1 : upF Fs7 7 badF 1 = F1 := rfl
  have p3 : upF Fs7 7 badF 3 = F3 := rfl
  have p4 : upF Fs7 7 badF 4 = F4 := rfl
  have e3 := f3 o b s hx
  have e4 := f4 o b s
  have e5 : idxD (.dict (h.objs.map fun x => (.str x, .list (nD (tos h x))))) (.str x) = some (.list (nD (tos h x))) := lookS_map (f := fun y => .list (nD (tos h y))) hx
  have e1 : F1 [.dat (.list (nD (tos h x)))] s = .ok (tD (tos h x)) s := by
    have := f1 (b := false) (xs := tos h x) (fun y hy => o.str y (tos_in o x y hy)) (by have := tos_len o x; omega) s
    rwa [ss_self (tos_srt o x)] at this
  have eF : F7 = runFn (upF Fs7 7 badF) Cn 2 2 c7 := rfl
  rw [eF]
  clear eF
  generalize upF Fs7 7 badF = Φ at *
  simp [c7, ev, evs, evas, evp, evo, evc, evAnd, evOr, evIt, exS, exB, ↓bind_eq, ↓lft_eq, ↓seq_eq, ↓turn_eq, ↓quiet_eq, pure_eq, go_eq, some_eq, none_eq, ↓run_eq, getSlot, isOwn, anyOwn, itOwn, ownAs, eoOwn, ↓tr_eq, truth, bindTg, Pd.bindAll, wipeE, ckLim, ckTup, startE, slotOf, freeze, srcSlot, atOwn, setPar, evPar, frM, frD, turnF, turnF2, turnK, keyOk, ckDic, lim_eq, itemsOf_sq, seqOf_sq, len_sq, tup_sq, idx_sq, at0, at1, at2, upF, p1, p3, p4, e3, e4, e5, e1]
theorem f8 {x : Str} (hx : x ∈ h.objs) : F8 [.dat (hD b h), .dat (.str x)] s = .ok (tD (froms h x)) s := by
  have p1 : upF Fs8 8 badF 1 = F1 := rfl
  have p3 : upF Fs8 8 badF 3 = F3 := rfl
  have e3 := f3 o b s hx
  have e1 : F1 [.dat (.list (nD (froms h x)))] s = .ok (tD (froms h x)) s := by
    have := f1 (b := false) (xs := froms h x) (fun y hy => o.str y (froms_in o x y hy)) (by have := froms_len o x; omega) s
    rwa [ss_self (froms_srt o x)] at this
  have hc : ∀ Φ, ev Φ Cn (.comp (.slot 2) [2, 3] (.tp [2, 3]) (.ex (.idx (.slot 0) (.lit (.int 1)))) (.so (.cmp .Eq (.slot 3) (.slot 1)))) [.dat (hD b h), .dat (.str x), .un, .un] s = .ok (.list (nD (froms h x))) s := fun Φ => by
    have := comp_if (Φ := Φ) (C := Cn) (elt := .slot 2) (c := .so (.cmp .Eq (.slot 3) (.slot 1))) (own := [2, 3]) (tg := .tp [2, 3]) (it := .ex (.idx (.slot 0) (.lit (.int 1)))) (ρ := [.dat (hD b h), .dat (.str x), .un, .un]) (s := s) (s1 := s) (xs := h.ptr) (g' := pD b) (h := fun p => .str p.1) (p := fun p => p.2 = x) (by simp [ev, evs, evas, evp, evo, evc, evAnd, evOr, evIt, exS, exB, ↓bind_eq, ↓lft_eq, ↓seq_eq, ↓turn_eq, ↓quiet_eq, pure_eq, go_eq, some_eq, none_eq, ↓run_eq, getSlot, isOwn, anyOwn, itOwn, ownAs, eoOwn, ↓tr_eq, truth, bindTg, Pd.bindAll, wipeE, ckLim, ckTup, startE, slotOf, freeze, srcSlot, atOwn, setPar, evPar, frM, frD, turnF, turnF2, turnK, keyOk, ckDic, lim_eq, itemsOf_sq, seqOf_sq, len_sq, tup_sq, idx_sq, at0, at1, at2, upF, hD]) (by rfl) (fun p hp => by
      by_cases e : p.2 = x <;> cases b <;> simp [ev, evs, evas, evp, evo, evc, evAnd, evOr, evIt, exS, exB, ↓bind_eq, ↓lft_eq, ↓seq_eq, ↓turn_eq, ↓quiet_eq, pure_eq, go_eq, some_eq, none_eq, ↓run_eq, getSlot, isOwn, anyOwn, itOwn, ownAs, eoOwn, ↓tr_eq, truth, bindTg, Pd.bindAll, wipeE, ckLim, ckTup, startE, slotOf, freeze, srcSlot, atOwn, setPar, evPar, frM, frD, turnF, turnF2, turnK, keyOk, ckDic, lim_eq, itemsOf_sq, seqOf_sq, len_sq, tup_sq, idx_sq, at0, at1, at2, upF, cmpD, eqD, pD, sq, e]) (by have := o.plen; omega)
    rw [this]
    simp [froms, nD]
  have eF : F8 = runFn (upF Fs8 8 badF) Cn 4 2 c8 := rfl
  rw [eF]
  clear eF
  generalize upF Fs8 8 badF = Φ at *
  simp [c8, ev, evs, evas, evp, evo, evc, evAnd, evOr, evIt, exS, exB, ↓bind_eq, ↓lft_eq, ↓seq_eq, ↓turn_eq, ↓quiet_eq, pure_eq, go_eq, some_eq, none_eq, ↓run_eq, getSlot, isOwn, anyOwn, itOwn, ownAs, eoOwn, ↓tr_eq, truth, bindTg, Pd.bindAll, wipeE, ckLim, ckTup, startE, slotOf, freeze, srcSlot, atOwn, setPar, evPar, frM, frD, turnF, turnF2, turnK, keyOk, ckDic, lim_eq, itemsOf_sq, seqOf_sq, len_sq, tup_sq, idx_sq, at0, at1, at2, upF, p1, p3, e3, ↓hc, e1]
/-- in which rounds -/
def spots (h : Hp) (x : Str) : List (Nat × List Str) := ((laps h).zipIdx.map fun p => (p.2, p.1)).filter fun p => decide (x ∈ p.2)
def spotD (h : Hp) (x : Str) : D := match spots h x with
  | [] => .none
  | p :: _ => .int p.1
theorem f9 {x : Str} (hx : x ∈ h.objs) : F9 [.dat (hD b h), .dat (.str x)] s = .ok (spotD h x) s := by
  have p3 : upF Fs9 9 badF 3 = F3 := rfl
  have p5 : upF Fs9 9 badF 5 = F5 := rfl
  have e3 := f3 o b s hx
  have e5 := f5 o b s
  have hc : ∀ Φ, Φ 5 = F5 → ev Φ Cn (.comp (.slot 3) [3, 4] (.tp [3, 4]) (.enum (.call 5 (.cons (.slot 0) .nil))) (.so (.cmp .In (.slot 1) (.slot 4)))) [.dat (hD b h), .dat (.str x), .un, .un, .un] s = .ok (.list ((spots h x).map fun p => .int p.1)) s := fun Φ p5 => by
    refine comp_if (xs := (laps h).zipIdx.map fun p => ((p.2 : Nat), p.1)) (g' := fun p : Nat × List Str => .tuple [.int p.1, tD p.2]) (h := fun p => .int p.1) (p := fun p => x ∈ p.2) ?_ ?_ (fun p hp => ?_) ?_
    · have := enumD_map (g := tD) (xs := laps h) (k := 0)
      simp [ev, evs, evas, evp, evo, evc, evAnd, evOr, evIt, exS, exB, ↓bind_eq, ↓lft_eq, ↓seq_eq, ↓turn_eq, ↓quiet_eq, pure_eq, go_eq, some_eq, none_eq, ↓run_eq, getSlot, isOwn, anyOwn, itOwn, ownAs, eoOwn, ↓tr_eq, truth, bindTg, Pd.bindAll, wipeE, ckLim, ckTup, startE, slotOf, freeze, srcSlot, atOwn, setPar, evPar, frM, frD, turnF, turnF2, turnK, keyOk, ckDic, lim_eq, itemsOf_sq, seqOf_sq, len_sq, tup_sq, idx_sq, at0, at1, at2, upF, p5, e5, enmD]
      exact this
    · rfl
    · have hp2 : Oks p.2 := fun y hy => by
        obtain ⟨q, hq, rfl⟩ := List.mem_map.mp hp
        exact o.str y (laps_in o y (List.mem_flatten.mpr ⟨q.1, (List.mem_zipIdx' hq).2 ▸ List.getElem_mem _, hy⟩))
      have e2 : inD (.str x) (tD p.2) = some (decide (x ∈ p.2)) := inD_sq (b := true) (o.str x hx) hp2
      by_cases e : x ∈ p.2 <;> simp [ev, evs, evas, evp, evo, evc, evAnd, evOr, evIt, exS, exB, ↓bind_eq, ↓lft_eq, ↓seq_eq, ↓turn_eq, ↓quiet_eq, pure_eq, go_eq, some_eq, none_eq, ↓run_eq, getSlot, isOwn, anyOwn, itOwn, ownAs, eoOwn, ↓tr_eq, truth, bindTg, Pd.bindAll, wipeE, ckLim, ckTup, startE, slotOf, freeze, srcSlot, atOwn, setPar, evPar, frM, frD, turnF, turnF2, turnK, keyOk, ckDic, lim_eq, itemsOf_sq, seqOf_sq, len_sq, tup_sq, idx_sq, at0, at1, at2, upF, cmpD, e2, e]
    · have := laps_len o
      simp
      omega
  have hc := hc _ p5
  have eF : F9 = runFn (upF Fs9 9 badF) Cn 5 2 c9 := rfl
  rw [eF]
  clear eF
  generalize upF Fs9 9 badF = Φ at *
  unfold spotD
  cases e : spots h x with
  | nil =>
    rw [e] at hc
    simp [c9, ev, evs, evas, evp, evo, evc, evAnd, evOr, evIt, exS, exB, ↓bind_eq, ↓lft_eq, ↓seq_eq, ↓turn_eq, ↓quiet_eq, pure_eq, go_eq, some_eq, none_eq, ↓run_eq, getSlot, isOwn, anyOwn, itOwn, ownAs, eoOwn, ↓tr_eq, truth, bindTg, Pd.bindAll, wipeE, ckLim, ckTup, startE, slotOf, freeze, srcSlot, atOwn, setPar, evPar, frM, frD, turnF, turnF2, turnK, keyOk, ckDic, lim_eq, itemsOf_sq, seqOf_sq, len_sq, tup_sq, idx_sq, at0, at1, at2, upF, p3, e3, ↓hc, biD, cmpD]
  | cons p r =>
    rw [e] at hc
    have q : (0 : Int) < (r.length : Int) + 1 := by omega
    have q1 : idxD (.list (.int p.1 :: r.map fun p => .int p.1)) (.int 0) = some (.int p.1) := at0 _ _
    simp only [List.map_cons] at hc
    simp [c9, ev, evs, evas, evp, evo, evc, evAnd, evOr, evIt, exS, exB, ↓bind_eq, ↓lft_eq, ↓seq_eq, ↓turn_eq, ↓quiet_eq, pure_eq, go_eq, some_eq, none_eq, ↓run_eq, getSlot, isOwn, anyOwn, itOwn, ownAs, eoOwn, ↓tr_eq, truth, bindTg, Pd.bindAll, wipeE, ckLim, ckTup, startE, slotOf, freeze, srcSlot, atOwn, setPar, evPar, frM, frD, turnF, turnF2, turnK, keyOk, ckDic, lim_eq, itemsOf_sq, seqOf_sq, len_sq, tup_sq, idx_sq, at0, at1, at2, upF, p3, e3, ↓hc, biD, cmpD, q, q1]
end
end K02M
end
section
/-! K02: the law's small defs. -/
namespace K02M
open PySem PyProof.Rows Pd Pm K02
theorem f11 : Take F11 := by
  intro n h1 h2 K s g hK
  obtain ⟨a, b, c⟩ := s
  obtain ⟨g1, g2, g3⟩ := g
  dsimp only at g1 g2 g3
  have eF : F11 = runFn (upF Fs10 11 badF) Cn 6 2 c11 := rfl
  rw [eF]
  clear eF
  generalize upF Fs10 11 badF = Φ
  have k1 : n < 1073741824 := by omega
  by_cases p : 0 < a
  · refine ⟨a % n, ⟨a / n, b, c⟩, ?_, Int.emod_nonneg _ (by omega), Int.emod_lt_of_pos _ h1, Int.ediv_nonneg g1 (by omega), g2, by dsimp only; omega⟩
    simp [c11, ev, evs, evas, evp, evo, evc, evAnd, evOr, evIt, exS, exB, ↓bind_eq, ↓lft_eq, ↓seq_eq, ↓turn_eq, ↓quiet_eq, pure_eq, go_eq, some_eq, none_eq, ↓run_eq, getSlot, isOwn, anyOwn, itOwn, ownAs, eoOwn, ↓tr_eq, truth, bindTg, Pd.bindAll, wipeE, ckLim, ckTup, startE, slotOf, freeze, srcSlot, atOwn, setPar, evPar, frM, frD, turnF, turnF2, turnK, keyOk, ckDic, lim_eq, itemsOf_sq, seqOf_sq, len_sq, tup_sq, idx_sq, at0, at1, at2, upF, getBx, bsetD, setBx, biD, binD, cmpD, p, h1, k1]
  · have s1 : small 48271 = true := by decide
    have s2 : small (39373 + (c + 1)) = true := sm_of (by omega) (by omega)
    have s3 : ∀ i : Int, small (i % 40009 + 7) = true := fun i => sm_of (by have := Int.emod_nonneg i (b := 40009) (by omega); omega) (by have := Int.emod_lt_of_pos i (b := 40009) (by omega); omega)
    refine ⟨drw b (c + 1) % n, ⟨a, b, c + 1⟩, ?_, Int.emod_nonneg _ (by omega), Int.emod_lt_of_pos _ h1, g1, by dsimp only; omega, by dsimp only; omega⟩
    simp [c11, ev, evs, evas, evp, evo, evc, evAnd, evOr, evIt, exS, exB, ↓bind_eq, ↓lft_eq, ↓seq_eq, ↓turn_eq, ↓quiet_eq, pure_eq, go_eq, some_eq, none_eq, ↓run_eq, getSlot, isOwn, anyOwn, itOwn, ownAs, eoOwn, ↓tr_eq, truth, bindTg, Pd.bindAll, wipeE, ckLim, ckTup, startE, slotOf, freeze, srcSlot, atOwn, setPar, evPar, frM, frD, turnF, turnF2, turnK, keyOk, ckDic, lim_eq, itemsOf_sq, seqOf_sq, len_sq, tup_sq, idx_sq, at0, at1, at2, upF, getBx, bsetD, setBx, biD, binD, cmpD, p, h1, k1, s1, s2, s3, drw]
def Sm : Nat → Fn := runRec Fs12 13 Cn 4 2 c13
def gd : Nat → D → Prop
  | 0, _ => False
  | m + 1, d => match d with
    | .none => True
    | .bool _ => True
    | .int _ => True
    | .str _ => True
    | .list xs => xs.length ≤ 16777216 ∧ ∀ x ∈ xs, gd m x
    | .tuple xs => xs.length ≤ 16777216 ∧ ∀ x ∈ xs, gd m x
    | .dict _ => False
theorem zip_self : ∀ xs : List D, zipD xs xs = xs.map fun x => .tuple [x, x]
  | [] => rfl
  | x :: r => congrArg _ (zip_self r)
theorem all_true {α : Type} : ∀ xs : List α, biD .all (.list (xs.map fun _ => .bool true)) = some (.bool true) := fun xs => by
  have : boolsOf (xs.map fun _ => PyData.bool true) = some (xs.map fun _ => true) := by
    induction xs with
    | nil => rfl
    | cons x r ih =>
      show (boolsOf (r.map fun _ => PyData.bool true)).map (true :: ·) = _
      rw [ih]
      rfl
  show (boolsOf (xs.map fun _ => PyData.bool true)).map (fun bs => PyData.bool (bs.all id)) = _
  rw [this]
  simp
def x13 : Ex := .comp (.call 13 (.cons (.slot 2) (.cons (.slot 3) .nil))) [2, 3] (.tp [2, 3]) (.zip (.slot 0) (.slot 1)) .no
theorem same_refl : ∀ (m : Nat) (d : D), gd m d → ∀ s : Bx, Sm m [.dat d, .dat d] s = .ok (.bool true) s
  | 0, _, h, _ => h.elim
  | m + 1, d, h, s => by
    have eF : Sm (m + 1) = runFn (upF Fs12 13 (Sm m)) Cn 4 2 c13 := rfl
    have p13 : upF Fs12 13 (Sm m) 13 = Sm m := rfl
    rw [eF]
    clear eF
    have ec : c13 = (.cons (.ite (.isi (.slot 1) [.list, .tuple] true) (.cons (.ite (.disj (.cons (.cmp .NotEq (.isi (.slot 0) [.list] false) (.isi (.slot 1) [.list] false)) (.cons (.cmp .NotEq (.isi (.slot 0) [.tuple] false) (.isi (.slot 1) [.tuple] false)) .nil))) (.cons (.ret (.lit (.bool false)))
  .nil) .nil)
  (.cons (.ret (.conj (.cons (.cmp .Eq (.bi .len (.slot 0)) (.bi .len (.slot 1))) (.cons (.bi .all x13) .nil))))
  .nil)) .nil)
  (.cons (.ite (.disj (.cons (.cmp .Is (.slot 1) (.lit .none)) (.cons (.isi (.slot 1) [.bool, .str] true) .nil))) (.cons (.ret (.conj (.cons (.cmp .Eq (.slot 0) (.slot 1)) (.cons (.cmp .Eq (.isi (.slot 0) [.bool] false) (.isi (.slot 1) [.bool] false)) (.cons (.cmp .Eq (.cmp .Is (.slot 0) (.lit .none)) (.cmp .Is (.slot 1) (.lit .none))) .nil)))))
  .nil) .nil)
  (.cons (.ret (.conj (.cons (.isi (.slot 0) [.int] false) (.cons (.nt (.isi (.slot 0) [.bool] false)) (.cons (.cmp .Eq (.slot 0) (.slot 1)) .nil)))))
  .nil))) := rfl
    have i1 : ∀ ρ, isOwn ρ x13 = false := fun _ => rfl
    have i2 : ∀ ρ, isOwn ρ (.bi .all x13) = false := fun _ => rfl
    have hc : ∀ xs : List D, ∀ b : Bool, xs.length ≤ 16777216 → (∀ x ∈ xs, gd m x) → ev (upF Fs12 13 (Sm m)) Cn x13 [.dat (sq b xs), .dat (sq b xs), .un, .un] s = .ok (.list (xs.map fun _ => .bool true)) s := fun xs b hl hx => by
      have zb : zippD (sq b xs) (sq b xs) = some (xs.map fun x => .tuple [x, x]) := by
        rw [← zip_self]
        cases b <;> rfl
      unfold x13
      refine comp_map (g' := fun x => .tuple [x, x]) (h := fun _ => .bool true) (by simp [ev, evs, evas, evp, evo, evc, evAnd, evOr, evIt, exS, exB, ↓bind_eq, ↓lft_eq, ↓seq_eq, ↓turn_eq, ↓quiet_eq, pure_eq, go_eq, some_eq, none_eq, ↓run_eq, getSlot, isOwn, anyOwn, itOwn, ownAs, eoOwn, ↓tr_eq, truth, bindTg, Pd.bindAll, wipeE, ckLim, ckTup, startE, slotOf, freeze, srcSlot, atOwn, setPar, evPar, frM, frD, turnF, turnF2, turnK, keyOk, ckDic, lim_eq, itemsOf_sq, seqOf_sq, len_sq, tup_sq, idx_sq, at0, at1, at2, upF, zb]) (by rfl) (fun x hm => ?_) hl
      have ih := same_refl m x (hx x hm) s
      simp [ev, evs, evas, evp, evo, evc, evAnd, evOr, evIt, exS, exB, ↓bind_eq, ↓lft_eq, ↓seq_eq, ↓turn_eq, ↓quiet_eq, pure_eq, go_eq, some_eq, none_eq, ↓run_eq, getSlot, isOwn, anyOwn, itOwn, ownAs, eoOwn, ↓tr_eq, truth, bindTg, Pd.bindAll, wipeE, ckLim, ckTup, startE, slotOf, freeze, srcSlot, atOwn, setPar, evPar, frM, frD, turnF, turnF2, turnK, keyOk, ckDic, lim_eq, itemsOf_sq, seqOf_sq, len_sq, tup_sq, idx_sq, at0, at1, at2, upF, p13, ih]
    generalize upF Fs12 13 (Sm m) = Φ at *
    rw [ec]
    cases d with
    | none => simp [ev, evs, evas, evp, evo, evc, evAnd, evOr, evIt, exS, exB, ↓bind_eq, ↓lft_eq, ↓seq_eq, ↓turn_eq, ↓quiet_eq, pure_eq, go_eq, some_eq, none_eq, ↓run_eq, getSlot, isOwn, anyOwn, itOwn, ownAs, eoOwn, ↓tr_eq, truth, bindTg, Pd.bindAll, wipeE, ckLim, ckTup, startE, slotOf, freeze, srcSlot, atOwn, setPar, evPar, frM, frD, turnF, turnF2, turnK, keyOk, ckDic, lim_eq, itemsOf_sq, seqOf_sq, len_sq, tup_sq, idx_sq, at0, at1, at2, upF, cmpD, eqD, tyOf]
    | bool k => cases k <;> simp [ev, evs, evas, evp, evo, evc, evAnd, evOr, evIt, exS, exB, ↓bind_eq, ↓lft_eq, ↓seq_eq, ↓turn_eq, ↓quiet_eq, pure_eq, go_eq, some_eq, none_eq, ↓run_eq, getSlot, isOwn, anyOwn, itOwn, ownAs, eoOwn, ↓tr_eq, truth, bindTg, Pd.bindAll, wipeE, ckLim, ckTup, startE, slotOf, freeze, srcSlot, atOwn, setPar, evPar, frM, frD, turnF, turnF2, turnK, keyOk, ckDic, lim_eq, itemsOf_sq, seqOf_sq, len_sq, tup_sq, idx_sq, at0, at1, at2, upF, cmpD, eqD, tyOf]
    | int i => simp [ev, evs, evas, evp, evo, evc, evAnd, evOr, evIt, exS, exB, ↓bind_eq, ↓lft_eq, ↓seq_eq, ↓turn_eq, ↓quiet_eq, pure_eq, go_eq, some_eq, none_eq, ↓run_eq, getSlot, isOwn, anyOwn, itOwn, ownAs, eoOwn, ↓tr_eq, truth, bindTg, Pd.bindAll, wipeE, ckLim, ckTup, startE, slotOf, freeze, srcSlot, atOwn, setPar, evPar, frM, frD, turnF, turnF2, turnK, keyOk, ckDic, lim_eq, itemsOf_sq, seqOf_sq, len_sq, tup_sq, idx_sq, at0, at1, at2, upF, cmpD, eqD, tyOf]
    | str x => simp [ev, evs, evas, evp, evo, evc, evAnd, evOr, evIt, exS, exB, ↓bind_eq, ↓lft_eq, ↓seq_eq, ↓turn_eq, ↓quiet_eq, pure_eq, go_eq, some_eq, none_eq, ↓run_eq, getSlot, isOwn, anyOwn, itOwn, ownAs, eoOwn, ↓tr_eq, truth, bindTg, Pd.bindAll, wipeE, ckLim, ckTup, startE, slotOf, freeze, srcSlot, atOwn, setPar, evPar, frM, frD, turnF, turnF2, turnK, keyOk, ckDic, lim_eq, itemsOf_sq, seqOf_sq, len_sq, tup_sq, idx_sq, at0, at1, at2, upF, cmpD, eqD, tyOf]
    | list xs =>
      have hc : ev Φ Cn x13 [.dat (.list xs), .dat (.list xs), .un, .un] s = .ok (.list (xs.map fun _ => .bool true)) s := hc xs false h.1 h.2
      have ha := all_true xs
      have hb : biD .len (.list xs) = some (.int xs.length) := rfl
      simp [ev, evs, evas, evp, evo, evc, evAnd, evOr, evIt, exS, exB, ↓bind_eq, ↓lft_eq, ↓seq_eq, ↓turn_eq, ↓quiet_eq, pure_eq, go_eq, some_eq, none_eq, ↓run_eq, getSlot, isOwn, anyOwn, itOwn, ownAs, eoOwn, ↓tr_eq, truth, bindTg, Pd.bindAll, wipeE, ckLim, ckTup, startE, slotOf, freeze, srcSlot, atOwn, setPar, evPar, frM, frD, turnF, turnF2, turnK, keyOk, ckDic, lim_eq, itemsOf_sq, seqOf_sq, len_sq, tup_sq, idx_sq, at0, at1, at2, upF, cmpD, eqD, tyOf, i1, i2, hb, hc, ha]
    | tuple xs =>
      have hc : ev Φ Cn x13 [.dat (.tuple xs), .dat (.tuple xs), .un, .un] s = .ok (.list (xs.map fun _ => .bool true)) s := hc xs true h.1 h.2
      have ha := all_true xs
      have hb : biD .len (.tuple xs) = some (.int xs.length) := rfl
      simp [ev, evs, evas, evp, evo, evc, evAnd, evOr, evIt, exS, exB, ↓bind_eq, ↓lft_eq, ↓seq_eq, ↓turn_eq, ↓quiet_eq, pure_eq, go_eq, some_eq, none_eq, ↓run_eq, getSlot, isOwn, anyOwn, itOwn, ownAs, eoOwn, ↓tr_eq, truth, bindTg, Pd.bindAll, wipeE, ckLim, ckTup, startE, slotOf, freeze, srcSlot, atOwn, setPar, evPar, frM, frD, turnF, turnF2, turnK, keyOk, ckDic, lim_eq, itemsOf_sq, seqOf_sq, len_sq, tup_sq, idx_sq, at0, at1, at2, upF, cmpD, eqD, tyOf, i1, i2, hb, hc, ha]
    | dict _ => exact h.elim
theorem f13 {d : D} (h : gd 8 d) (s : Bx) : F13 [.dat d, .dat d] s = .ok (.bool true) s := same_refl 8 d h s
def Ls : Nat → Fn := runRec Fs13 14 Cn 2 1 c14
theorem ls_str (m : Nat) (x : Str) (s : Bx) : Ls (m + 1) [.dat (.str x)] s = .ok (.str x) s := by
  simp [Ls, runRec, ev, evs, evas, evp, evo, evc, evAnd, evOr, evIt, exS, exB, ↓bind_eq, ↓lft_eq, ↓seq_eq, ↓turn_eq, ↓quiet_eq, pure_eq, go_eq, some_eq, none_eq, ↓run_eq, getSlot, isOwn, anyOwn, itOwn, ownAs, eoOwn, ↓tr_eq, truth, bindTg, Pd.bindAll, wipeE, ckLim, ckTup, startE, slotOf, freeze, srcSlot, atOwn, setPar, evPar, frM, frD, turnF, turnF2, turnK, keyOk, ckDic, lim_eq, itemsOf_sq, seqOf_sq, len_sq, tup_sq, idx_sq, at0, at1, at2, upF, c14, tyOf]
def x14 : Ex := .comp (.call 14 (.cons (.slot 1) .nil)) [1] (.nm 1) (.ex (.slot 0)) .no
theorem ls_sq {α : Type} {m : Nat} {b : Bool} {xs : List α} {g' h : α → D} {s : Bx} (hx : ∀ x ∈ xs, Ls m [.dat (g' x)] s = .ok (h x) s) (hl : xs.length ≤ 16777216) : Ls (m + 1) [.dat (sq b (xs.map g'))] s = .ok (.list (xs.map h)) s := by
  have p14 : upF Fs13 14 (Ls m) 14 = Ls m := rfl
  have eF : Ls (m + 1) = runFn (upF Fs13 14 (Ls m)) Cn 2 1 c14 := rfl
  rw [eF]
  generalize upF Fs13 14 (Ls m) = Φ at *
  have hc : ev Φ Cn x14 [.dat (sq b (xs.map g')), .un] s = .ok (.list (xs.map h)) s := by
    unfold x14
    exact comp_map (g' := g') (h := h) (by simp [ev, evs, evas, evp, evo, evc, evAnd, evOr, evIt, exS, exB, ↓bind_eq, ↓lft_eq, ↓seq_eq, ↓turn_eq, ↓quiet_eq, pure_eq, go_eq, some_eq, none_eq, ↓run_eq, getSlot, isOwn, anyOwn, itOwn, ownAs, eoOwn, ↓tr_eq, truth, bindTg, Pd.bindAll, wipeE, ckLim, ckTup, startE, slotOf, freeze, srcSlot, atOwn, setPar, evPar, frM, frD, turnF, turnF2, turnK, keyOk, ckDic, lim_eq, itemsOf_sq, seqOf_sq, len_sq, tup_sq, idx_sq, at0, at1, at2, upF]) (by rfl) (fun x hm => by
      simp [ev, evs, evas, evp, evo, evc, evAnd, evOr, evIt, exS, exB, ↓bind_eq, ↓lft_eq, ↓seq_eq, ↓turn_eq, ↓quiet_eq, pure_eq, go_eq, some_eq, none_eq, ↓run_eq, getSlot, isOwn, anyOwn, itOwn, ownAs, eoOwn, ↓tr_eq, truth, bindTg, Pd.bindAll, wipeE, ckLim, ckTup, startE, slotOf, freeze, srcSlot, atOwn, setPar, evPar, frM, frD, turnF, turnF2, turnK, keyOk, ckDic, lim_eq, itemsOf_sq, seqOf_sq, len_sq, tup_sq, idx_sq, at0, at1, at2, upF, p14, hx x hm]) hl
  have ec : c14 = .cons (.ret (.ite (.isi (.slot 0) [.list, .tuple] true) x14 (.slot 0))) .nil := rfl
  have i1 : ∀ ρ, isOwn ρ x14 = false := fun _ => rfl
  simp [ev, evs, evas, evp, evo, evc, evAnd, evOr, evIt, exS, exB, ↓bind_eq, ↓lft_eq, ↓seq_eq, ↓turn_eq, ↓quiet_eq, pure_eq, go_eq, some_eq, none_eq, ↓run_eq, getSlot, isOwn, anyOwn, itOwn, ownAs, eoOwn, ↓tr_eq, truth, bindTg, Pd.bindAll, wipeE, ckLim, ckTup, startE, slotOf, freeze, srcSlot, atOwn, setPar, evPar, frM, frD, turnF, turnF2, turnK, keyOk, ckDic, lim_eq, itemsOf_sq, seqOf_sq, len_sq, tup_sq, idx_sq, at0, at1, at2, upF, ec, hc, i1, biD, tyL, tyT]
theorem f14 {h : Hp} (o : Ok h) (s : Bx) : F14 [.dat (hD true h)] s = .ok (hD false h) s := by
  have hl := o.len
  have hr := o.rin.length_le
  have hp := o.plen
  have e0 : ∀ xs : List Str, xs.length ≤ 16777216 → ∀ m, Ls (m + 2) [.dat (sq true (nD xs))] s = .ok (sq false (nD xs)) s := fun xs hl m => ls_sq (g' := .str) (h := .str) (fun x _ => ls_str m x s) hl
  have e1 : Ls 7 [.dat (sq true (h.ptr.map (pD true)))] s = .ok (sq false (h.ptr.map (pD false))) s := ls_sq (fun p _ => e0 [p.1, p.2] (by simp) 4) (by omega)
  have e2 := ls_sq (m := 7) (b := true) (xs := [(sq true (nD h.objs), sq false (nD h.objs)), (sq true (h.ptr.map (pD true)), sq false (h.ptr.map (pD false))), (sq true (nD h.roots), sq false (nD h.roots))]) (g' := fun p => p.1) (h := fun p => p.2) (s := s) (fun p hp => by
    simp only [List.mem_cons, List.not_mem_nil, or_false] at hp
    rcases hp with rfl | rfl | rfl
    · exact e0 _ (by omega) 5
    · exact e1
    · exact e0 _ (by omega) 5) (by simp)
  exact e2
end K02M
end
section
/-! K02: the law's cells, heaps, words, laps. -/
namespace K02M
open PySem PyProof.Rows Pd Pm K02
def b12 : Stas := (.cons (.asg 5 (.bin .Mod (.bi .int (.slot 3)) (.slot 1)))
  (.cons (.seti 2 (.slot 5) (.bin .Add (.idx (.slot 2) (.slot 5)) (.bin .Mult (.slot 4) (.bin .Add (.slot 3) (.lit (.int 2))))))
  .nil))
theorem loop12 (Φ : Nat → Fn) (ns : List Int) (s : Bx) : ∀ (ts : List Int) (k : Int) (zs : List Int) (x3 x4 x5 : Slot), zs.length = 3 → 0 ≤ k → k + ts.length ≤ 1000 → ∃ (zs' : List Int) (x3' x4' x5' : Slot), zs'.length = 3 ∧
    frL (.tp [3, 4]) (exB Φ Cn b12) (enumD k (ts.map .int)) [.scr ns, .dat (.int 3), .own (zs.map .int), x3, x4, x5] s = .go .nx [.scr ns, .dat (.int 3), .own (zs'.map .int), x3', x4', x5'] s
  | [], k, zs, x3, x4, x5, h, _, _ => ⟨zs, x3, x4, x5, h, rfl⟩
  | t :: r, k, zs, x3, x4, x5, h, hk, hb => by
    rw [List.length_cons] at hb
    have h0 : 0 ≤ k % 3 := Int.emod_nonneg _ (by omega)
    have h1 : k % 3 < 3 := Int.emod_lt_of_pos _ (by omega)
    obtain ⟨q, hq⟩ := Int.eq_ofNat_of_zero_le h0
    have q3 : q < 3 := by omega
    have e1 : place (zs.map PyData.int).length (q : Int) = some q := place_nat (by rw [List.length_map]; omega)
    have e2 : idxD (.list (zs.map PyData.int)) (.int (q : Int)) = some (.int (zs[q]'(by omega))) := L2.atI_nat (by rw [List.getElem?_map, List.getElem?_eq_getElem (by omega)]; rfl)
    have e3 : small (k + 2) = true := sm_of (by omega) (by omega)
    obtain ⟨zs', y3, y4, y5, hl, hr⟩ := loop12 Φ ns s r (k + 1) (zs.set q (zs[q]'(by omega) + t * (k + 2))) (.dat (.int k)) (.dat (.int t)) (.dat (.int (q : Int))) (by rw [List.length_set]; exact h) (by omega) (by omega)
    refine ⟨zs', y3, y4, y5, hl, ?_⟩
    rw [← hr]
    rw [List.map_set]
    have e1' : place zs.length (q : Int) = some q := place_nat (by omega)
    simp [enumD, frL, b12, ev, evs, evas, evp, evo, evc, evAnd, evOr, evIt, exS, exB, ↓bind_eq, ↓lft_eq, ↓seq_eq, ↓turn_eq, ↓quiet_eq, pure_eq, go_eq, some_eq, none_eq, ↓run_eq, getSlot, isOwn, anyOwn, itOwn, ownAs, eoOwn, ↓tr_eq, truth, bindTg, Pd.bindAll, wipeE, ckLim, ckTup, startE, slotOf, freeze, srcSlot, atOwn, setPar, evPar, frM, frD, turnF, turnF2, turnK, keyOk, ckDic, lim_eq, itemsOf_sq, seqOf_sq, len_sq, tup_sq, idx_sq, at0, at1, at2, upF, biD, binD, hq, e1, e1', e2, e3]
def i12 : Ex := .disj (.cons (.bi .list (.sslc 0 .no (.so (.slot 1)))) (.cons (.lst (.cons (.lit (.int 0)) .nil)) .nil))
def t12 : It := .enum (.sslc 0 (.so (.slot 1)) (.so (.lit (.int 63))))
theorem f12 (ns : List Int) (hl : ns.length ≤ 63) (s : Bx) : ∃ zs : List Int, zs.length ≤ 3 ∧ F12 [.scr ns, .dat (.int 3)] s = .ok (.list (zs.map .int)) s := by
  have eF : F12 = runFn (upF Fs11 12 badF) Cn 6 2 c12 := rfl
  rw [eF]
  clear eF
  generalize upF Fs11 12 badF = Φ
  have ec : c12 = (.cons (.own 2 i12) (.cons (.fr (.tp [3, 4]) t12 b12) (.cons (.ret (.slot 2)) .nil))) := rfl
  have h1 : ∃ zs : List Int, (ns.length ≤ 3 → zs.length ≤ 3) ∧ (3 < ns.length → zs.length = 3) ∧ ev Φ Cn i12 [.scr ns, .dat (.int 3), .un, .un, .un, .un] s = .ok (.list (zs.map .int)) s := by
    have e1 : cutL (ns.map PyData.int) none (some 3) = (ns.take 3).map PyData.int := by
      rw [cut_map]
      exact congrArg _ (cut_to ns 3)
    cases ns with
    | nil => exact ⟨[0], fun _ => by simp, fun h => absurd h (by simp), by
        have e1 : cutL ([] : List D) none (some 3) = [] := rfl
        simp [i12, ev, evs, evas, evp, evo, evc, evAnd, evOr, evIt, exS, exB, ↓bind_eq, ↓lft_eq, ↓seq_eq, ↓turn_eq, ↓quiet_eq, pure_eq, go_eq, some_eq, none_eq, ↓run_eq, getSlot, isOwn, anyOwn, itOwn, ownAs, eoOwn, ↓tr_eq, truth, bindTg, Pd.bindAll, wipeE, ckLim, ckTup, startE, slotOf, freeze, srcSlot, atOwn, setPar, evPar, frM, frD, turnF, turnF2, turnK, keyOk, ckDic, lim_eq, itemsOf_sq, seqOf_sq, len_sq, tup_sq, idx_sq, at0, at1, at2, upF, biD, e1]⟩
    | cons n r =>
      refine ⟨(n :: r).take 3, fun _ => by simp; omega, fun h => by rw [List.length_take]; omega, ?_⟩
      have e1 : cutL (PyData.int n :: r.map PyData.int) none (some 3) = .int n :: (r.map PyData.int).take 2 := by
        rw [← List.map_take]
        exact e1
      simp [i12, ev, evs, evas, evp, evo, evc, evAnd, evOr, evIt, exS, exB, ↓bind_eq, ↓lft_eq, ↓seq_eq, ↓turn_eq, ↓quiet_eq, pure_eq, go_eq, some_eq, none_eq, ↓run_eq, getSlot, isOwn, anyOwn, itOwn, ownAs, eoOwn, ↓tr_eq, truth, bindTg, Pd.bindAll, wipeE, ckLim, ckTup, startE, slotOf, freeze, srcSlot, atOwn, setPar, evPar, frM, frD, turnF, turnF2, turnK, keyOk, ckDic, lim_eq, itemsOf_sq, seqOf_sq, len_sq, tup_sq, idx_sq, at0, at1, at2, upF, biD, e1]
  obtain ⟨zs, z1, z2, hz⟩ := h1
  have h2 : ∀ x, evIt Φ Cn t12 [.scr ns, .dat (.int 3), .own x, .un, .un, .un] s = .ok (enumD 0 ((cutL ns (some 3) (some 63)).map .int)) s := fun x => by
    simp [t12, ev, evs, evas, evp, evo, evc, evAnd, evOr, evIt, exS, exB, ↓bind_eq, ↓lft_eq, ↓seq_eq, ↓turn_eq, ↓quiet_eq, pure_eq, go_eq, some_eq, none_eq, ↓run_eq, getSlot, isOwn, anyOwn, itOwn, ownAs, eoOwn, ↓tr_eq, truth, bindTg, Pd.bindAll, wipeE, ckLim, ckTup, startE, slotOf, freeze, srcSlot, atOwn, setPar, evPar, frM, frD, turnF, turnF2, turnK, keyOk, ckDic, lim_eq, itemsOf_sq, seqOf_sq, len_sq, tup_sq, idx_sq, at0, at1, at2, upF, cut_map, enmD]
  have i1 : ∀ ρ, itOwn ρ t12 = false := fun _ => rfl
  have i2 : srcSlot t12 = none := rfl
  have hf : ∃ (zs' : List Int) (x3' x4' x5' : Slot), zs'.length ≤ 3 ∧ frL (.tp [3, 4]) (exB Φ Cn b12) (enumD 0 ((cutL ns (some 3) (some 63)).map .int)) [.scr ns, .dat (.int 3), .own (zs.map .int), .un, .un, .un] s = .go .nx [.scr ns, .dat (.int 3), .own (zs'.map .int), x3', x4', x5'] s := by
    by_cases h : 3 < ns.length
    · obtain ⟨zs', a, b, c, h1, h2⟩ := loop12 Φ ns s (cutL ns (some 3) (some 63)) 0 zs .un .un .un (z2 h) (by omega) (by have := cut_len ns (some 3) (some 63); omega)
      exact ⟨zs', a, b, c, by omega, h2⟩
    · have e : cutL ns (some 3) (some 63) = [] := cut_from ns 3 _ (by omega)
      rw [e]
      exact ⟨zs, .un, .un, .un, z1 (by omega), rfl⟩
  obtain ⟨zs', a, b, c, h3, h4⟩ := hf
  refine ⟨zs', h3, ?_⟩
  simp [ec, ev, evs, evas, evp, evo, evc, evAnd, evOr, evIt, exS, exB, ↓bind_eq, ↓lft_eq, ↓seq_eq, ↓turn_eq, ↓quiet_eq, pure_eq, go_eq, some_eq, none_eq, ↓run_eq, getSlot, isOwn, anyOwn, itOwn, ownAs, eoOwn, ↓tr_eq, truth, bindTg, Pd.bindAll, wipeE, ckLim, ckTup, startE, slotOf, freeze, srcSlot, atOwn, setPar, evPar, frM, frD, turnF, turnF2, turnK, keyOk, ckDic, lim_eq, itemsOf_sq, seqOf_sq, len_sq, tup_sq, idx_sq, at0, at1, at2, upF, hz, h2, ↓i1, ↓i2, h4]
end K02M
end
section
/-! K02: the heaps that the law draws. -/
namespace K02M
open PySem PyProof.Rows Pd Pm K02
def dr3 : Ex := .cmp .Eq (.call 11 (.box 0 (.cons (.lit (.int 3)) .nil))) (.lit (.int 0))
def x15 : Ex := .comp (.tup (.cons (.slot 3) (.cons (.slot 6) .nil))) [6] (.nm 6) (.ex (.slot 4)) (.so (.conj (.cons (.cmp .NotEq (.slot 3) (.slot 6)) (.cons dr3 .nil))))
def y15 : Ex := .comp (.slot 3) [3] (.nm 3) (.ex (.slot 4)) (.so dr3)
def b15 : Stas := .cons (.asg 5 (.bin .Add (.slot 5) x15)) .nil
section
variable {Φ : Nat → Fn} (p11 : Φ 11 = F11)
include p11
theorem draw3 {K : Nat} {s : Bx} (g : Gd K s) (hK : K ≤ 100000) : ∃ (k : Bool) (s' : Bx), (∀ ρ : Pd.Env, ρ[0]? = some .box → ev Φ Cn dr3 ρ s = .ok (.bool k) s') ∧ Gd (K + 1) s' := by
  obtain ⟨v, s', h1, _, _, h2⟩ := f11 3 (by decide) (by decide) K s g (by omega)
  refine ⟨v == 0, s', fun ρ hρ => ?_, h2⟩
  simp [dr3, ev, evs, evas, evp, evo, evc, evAnd, evOr, evIt, exS, exB, ↓bind_eq, ↓lft_eq, ↓seq_eq, ↓turn_eq, ↓quiet_eq, pure_eq, go_eq, some_eq, none_eq, ↓run_eq, getSlot, isOwn, anyOwn, itOwn, ownAs, eoOwn, ↓tr_eq, truth, bindTg, Pd.bindAll, wipeE, ckLim, ckTup, startE, slotOf, freeze, srcSlot, atOwn, setPar, evPar, frM, frD, turnF, turnF2, turnK, keyOk, ckDic, lim_eq, itemsOf_sq, seqOf_sq, len_sq, tup_sq, idx_sq, at0, at1, at2, upF, hρ, p11, h1, cmpD, eqD]
theorem ev_x15 {tags : List Str} (hl : tags.length ≤ 5) (t : Str) (a p q : Slot) {K : Nat} {s : Bx} (g : Gd K s) (hK : K ≤ 10000) :
    ∃ ys s', List.Sublist ys tags ∧ ev Φ Cn x15 [.box, a, p, .dat (.str t), .dat (tD tags), q, .un] s = .ok (.list (ys.map fun y => pD true (t, y))) s' ∧ Gd (K + 5) s' := by
  obtain ⟨ys, s', h1, h2, h3⟩ := collect_draw (xs := tags) (g := .str) (h := fun y => pD true (t, y)) (B := 10005) (f := turnF (.nm 6) [6] (fun ρ' => evc Φ Cn (.so (.conj (.cons (.cmp .NotEq (.slot 3) (.slot 6)) (.cons dr3 .nil)))) ρ') (fun ρ' => ev Φ Cn (.tup (.cons (.slot 3) (.cons (.slot 6) .nil))) ρ') (fun ρ' => isOwn ρ' (.tup (.cons (.slot 3) (.cons (.slot 6) .nil)))) [.box, a, p, .dat (.str t), .dat (tD tags), q, .un]) (fun x hx K s g hK => by
    have i1 : ∀ ρ, isOwn ρ dr3 = false := fun _ => rfl
    by_cases e : t = x
    · refine ⟨false, s, ?_, g.mono (by omega)⟩
      simp [ev, evs, evas, evp, evo, evc, evAnd, evOr, evIt, exS, exB, ↓bind_eq, ↓lft_eq, ↓seq_eq, ↓turn_eq, ↓quiet_eq, pure_eq, go_eq, some_eq, none_eq, ↓run_eq, getSlot, isOwn, anyOwn, itOwn, ownAs, eoOwn, ↓tr_eq, truth, bindTg, Pd.bindAll, wipeE, ckLim, ckTup, startE, slotOf, freeze, srcSlot, atOwn, setPar, evPar, frM, frD, turnF, turnF2, turnK, keyOk, ckDic, lim_eq, itemsOf_sq, seqOf_sq, len_sq, tup_sq, idx_sq, at0, at1, at2, upF, cmpD, eqD, e, i1]
    · obtain ⟨k, s', h1, h2⟩ := draw3 p11 g (by omega)
      refine ⟨k, s', ?_, h2⟩
      cases k <;> simp [ev, evs, evas, evp, evo, evc, evAnd, evOr, evIt, exS, exB, ↓bind_eq, ↓lft_eq, ↓seq_eq, ↓turn_eq, ↓quiet_eq, pure_eq, go_eq, some_eq, none_eq, ↓run_eq, getSlot, isOwn, anyOwn, itOwn, ownAs, eoOwn, ↓tr_eq, truth, bindTg, Pd.bindAll, wipeE, ckLim, ckTup, startE, slotOf, freeze, srcSlot, atOwn, setPar, evPar, frM, frD, turnF, turnF2, turnK, keyOk, ckDic, lim_eq, itemsOf_sq, seqOf_sq, len_sq, tup_sq, idx_sq, at0, at1, at2, upF, cmpD, eqD, e, i1, h1, pD, sq]) K s g (by omega)
  refine ⟨ys, s', h1, ?_, h3.mono (by omega)⟩
  unfold x15
  refine ev_comp ?_ rfl h2 ?_
  · have : itemsOf (tD tags) = some (nD tags) := rfl
    simp [ev, evs, evas, evp, evo, evc, evAnd, evOr, evIt, exS, exB, ↓bind_eq, ↓lft_eq, ↓seq_eq, ↓turn_eq, ↓quiet_eq, pure_eq, go_eq, some_eq, none_eq, ↓run_eq, getSlot, isOwn, anyOwn, itOwn, ownAs, eoOwn, ↓tr_eq, truth, bindTg, Pd.bindAll, wipeE, ckLim, ckTup, startE, slotOf, freeze, srcSlot, atOwn, setPar, evPar, frM, frD, turnF, turnF2, turnK, keyOk, ckDic, lim_eq, itemsOf_sq, seqOf_sq, len_sq, tup_sq, idx_sq, at0, at1, at2, upF, this]
    rfl
  · have := h1.length_le
    rw [List.length_map]
    omega
theorem ev_y15 {tags : List Str} (hl : tags.length ≤ 5) (a p q r : Slot) (nr : ∀ x, r ≠ .own x) {K : Nat} {s : Bx} (g : Gd K s) (hK : K ≤ 10000) :
    ∃ ys s', List.Sublist ys tags ∧ ev Φ Cn y15 [.box, a, p, r, .dat (tD tags), q, .un] s = .ok (.list (nD ys)) s' ∧ Gd (K + 5) s' := by
  obtain ⟨ys, s', h1, h2, h3⟩ := collect_draw (xs := tags) (g := .str) (h := .str) (B := 10005) (f := turnF (.nm 3) [3] (fun ρ' => evc Φ Cn (.so dr3) ρ') (fun ρ' => ev Φ Cn (.slot 3) ρ') (fun ρ' => isOwn ρ' (.slot 3)) [.box, a, p, r, .dat (tD tags), q, .un]) (fun x hx K s g hK => by
    obtain ⟨k, s', h1, h2⟩ := draw3 p11 g (by omega)
    refine ⟨k, s', ?_, h2⟩
    cases k <;> simp [ev, evs, evas, evp, evo, evc, evAnd, evOr, evIt, exS, exB, ↓bind_eq, ↓lft_eq, ↓seq_eq, ↓turn_eq, ↓quiet_eq, pure_eq, go_eq, some_eq, none_eq, ↓run_eq, getSlot, isOwn, anyOwn, itOwn, ownAs, eoOwn, ↓tr_eq, truth, bindTg, Pd.bindAll, wipeE, ckLim, ckTup, startE, slotOf, freeze, srcSlot, atOwn, setPar, evPar, frM, frD, turnF, turnF2, turnK, keyOk, ckDic, lim_eq, itemsOf_sq, seqOf_sq, len_sq, tup_sq, idx_sq, at0, at1, at2, upF, h1]) K s g (by omega)
  refine ⟨ys, s', h1, ?_, h3.mono (by omega)⟩
  unfold y15
  refine ev_comp ?_ ?_ h2 ?_
  · have : itemsOf (tD tags) = some (nD tags) := rfl
    simp [ev, evs, evas, evp, evo, evc, evAnd, evOr, evIt, exS, exB, ↓bind_eq, ↓lft_eq, ↓seq_eq, ↓turn_eq, ↓quiet_eq, pure_eq, go_eq, some_eq, none_eq, ↓run_eq, getSlot, isOwn, anyOwn, itOwn, ownAs, eoOwn, ↓tr_eq, truth, bindTg, Pd.bindAll, wipeE, ckLim, ckTup, startE, slotOf, freeze, srcSlot, atOwn, setPar, evPar, frM, frD, turnF, turnF2, turnK, keyOk, ckDic, lim_eq, itemsOf_sq, seqOf_sq, len_sq, tup_sq, idx_sq, at0, at1, at2, upF, this]
    rfl
  · cases r with
    | own x => exact absurd rfl (nr x)
    | _ => rfl
  · have := h1.length_le
    rw [nD_len]
    omega
theorem loop15 {tags : List Str} (ht : tags.Pairwise ltS) (hl : tags.length ≤ 5) (a p : Slot) : ∀ (ts : List Str) (acc : List (Str × Str)) (x3 : Slot) (K : Nat) (s : Bx), (∀ x, x3 ≠ .own x) → ts.Pairwise ltS → Gd K s → K + 5 * ts.length ≤ 10000 → acc.length + 5 * ts.length ≤ 1000 →
    ∃ (ex : List (Str × Str)) (y3 : Slot) (s' : Bx), (∀ x, y3 ≠ .own x) ∧ frL (.nm 3) (exB Φ Cn b15) (nD ts) [.box, a, p, x3, .dat (tD tags), .dat (.list (acc.map (pD true))), .un] s = .go .nx [.box, a, p, y3, .dat (tD tags), .dat (.list ((acc ++ ex).map (pD true))), .un] s' ∧
      (∀ q ∈ ex, q.1 ∈ ts ∧ q.2 ∈ tags) ∧ ex.Pairwise lexP ∧ ex.length ≤ 5 * ts.length ∧ Gd (K + 5 * ts.length) s'
  | [], acc, x3, K, s, h3, _, g, _, _ => ⟨[], x3, s, h3, by rw [List.append_nil]; rfl, fun q hq => absurd hq List.not_mem_nil, .nil, by simp, g⟩
  | t :: r, acc, x3, K, s, h3, hs, g, hK, ha => by
    rw [List.length_cons] at hK ha
    obtain ⟨ys, s1, y1, y2, g1⟩ := ev_x15 p11 hl t a p (.dat (.list (acc.map (pD true)))) g (by omega)
    have yl := y1.length_le
    obtain ⟨hs1, hs2⟩ := List.pairwise_cons.mp hs
    obtain ⟨ex, z3, s2, n3, hr, m1, m2, m3, g2⟩ := loop15 ht hl a p r (acc ++ ys.map fun y => (t, y)) (.dat (.str t)) (K + 5) s1 (fun x e => by cases e) hs2 g1 (by omega) (by rw [List.length_append, List.length_map]; omega)
    refine ⟨(ys.map fun y => (t, y)) ++ ex, z3, s2, n3, ?_, ?_, ?_, ?_, ?_⟩
    · rw [← List.append_assoc, ← hr]
      have i1 : ∀ ρ, isOwn ρ (.bin .Add (.slot 5) x15) = false := fun _ => rfl
      have e1 : binD .Add (.list (acc.map (pD true))) (.list (ys.map fun y => pD true (t, y))) = some (.list ((acc ++ ys.map fun y => (t, y)).map (pD true))) := by
        show (catL _ _).map PyData.list = _
        unfold catL
        rw [if_pos (by rw [List.length_map, List.length_map, lim_eq]; omega), List.map_append, List.map_map]
        rfl
      have e2 : nD (t :: r) = .str t :: nD r := rfl
      simp [e2, frL, b15, ev, evs, evas, evp, evo, evc, evAnd, evOr, evIt, exS, exB, ↓bind_eq, ↓lft_eq, ↓seq_eq, ↓turn_eq, ↓quiet_eq, pure_eq, go_eq, some_eq, none_eq, ↓run_eq, getSlot, isOwn, anyOwn, itOwn, ownAs, eoOwn, ↓tr_eq, truth, bindTg, Pd.bindAll, wipeE, ckLim, ckTup, startE, slotOf, freeze, srcSlot, atOwn, setPar, evPar, frM, frD, turnF, turnF2, turnK, keyOk, ckDic, lim_eq, itemsOf_sq, seqOf_sq, len_sq, tup_sq, idx_sq, at0, at1, at2, upF, i1, y2, e1]
    · intro q hq
      rcases List.mem_append.mp hq with hq | hq
      · obtain ⟨y, hy, rfl⟩ := List.mem_map.mp hq
        exact ⟨List.mem_cons_self, y1.subset hy⟩
      · exact ⟨List.mem_cons_of_mem _ (m1 q hq).1, (m1 q hq).2⟩
    · refine List.pairwise_append.mpr ⟨List.pairwise_map.mpr ((ht.sublist y1).imp fun l => Or.inr ⟨rfl, l⟩), m2, fun x hx y hy => ?_⟩
      obtain ⟨z, _, rfl⟩ := List.mem_map.mp hx
      exact Or.inl (hs1 _ (m1 y hy).1)
    · rw [List.length_append, List.length_map, List.length_cons]
      omega
    · rw [List.length_cons]
      exact g2.mono (by omega)
end
def names5 : List Str := ["m", "b", "mb", "f", "bm"]
def l15 : Ex := .slc (.lst (.cons (.lit (.str "m")) (.cons (.lit (.str "b")) (.cons (.lit (.str "mb")) (.cons (.lit (.str "f")) (.cons (.lit (.str "bm")) .nil)))))) .no (.so (.call 11 (.box 0 (.cons (.bin .Add (.slot 1) (.lit (.int 1))) .nil))))
theorem f15 {K : Nat} {s : Bx} (g : Gd K s) (hK : K ≤ 5000) : ∃ h s', Ok h ∧ F15 [.box, .dat (.int 5)] s = .ok (hD true h) s' ∧ Gd (K + 31) s' := by
  have p11 : upF Fs14 15 badF 11 = F11 := rfl
  have eF : F15 = runFn (upF Fs14 15 badF) Cn 7 2 c15 := rfl
  rw [eF]
  clear eF
  generalize upF Fs14 15 badF = Φ at *
  have ec : c15 = (.cons (.asg 2 l15)
    (.cons (.par [(4, false), (5, false)] (.cons (.bi .tuple (.bi .sorted (.slot 2))) (.cons (.lst .nil) .nil)))
    (.cons (.fr (.nm 3) (.ex (.slot 4)) b15)
    (.cons (.ret (.tup (.cons (.slot 4) (.cons (.bi .tuple (.slot 5)) (.cons (.bi .tuple y15) .nil))))) .nil)))) := rfl
  obtain ⟨v, s1, h1, v0, v6, g1⟩ := f11 6 (by decide) (by decide) K s g (by omega)
  obtain ⟨n, rfl⟩ := Int.eq_ofNat_of_zero_le v0
  have n5 : n ≤ 5 := by omega
  have e2 : ev Φ Cn l15 [.box, .dat (.int 5), .un, .un, .un, .un, .un] s = .ok (.list (nD (names5.take n))) s1 := by
    have := cut_to (nD names5) n
    have c : (nD names5).take n = nD (names5.take n) := List.map_take.symm
    rw [c] at this
    have c2 : nD names5 = [.str "m", .str "b", .str "mb", .str "f", .str "bm"] := rfl
    rw [c2] at this
    simp [l15, ev, evs, evas, evp, evo, evc, evAnd, evOr, evIt, exS, exB, ↓bind_eq, ↓lft_eq, ↓seq_eq, ↓turn_eq, ↓quiet_eq, pure_eq, go_eq, some_eq, none_eq, ↓run_eq, getSlot, isOwn, anyOwn, itOwn, ownAs, eoOwn, ↓tr_eq, truth, bindTg, Pd.bindAll, wipeE, ckLim, ckTup, startE, slotOf, freeze, srcSlot, atOwn, setPar, evPar, frM, frD, turnF, turnF2, turnK, keyOk, ckDic, lim_eq, itemsOf_sq, seqOf_sq, len_sq, tup_sq, idx_sq, at0, at1, at2, upF, p11, binD, h1, slcD, this]
  have ok5 : Oks names5 := by
    unfold Oks
    decide +kernel
  have nd5 : names5.Nodup := by decide +kernel
  have okp : Oks (names5.take n) := fun x hx => ok5 x (List.mem_of_mem_take hx)
  have ndp : (names5.take n).Nodup := nd5.sublist (List.take_sublist n names5)
  have lp : (names5.take n).length ≤ 5 := by
    rw [List.length_take]
    omega
  generalize names5.take n = pool at okp ndp lp e2
  have e3 : biD .sorted (.list (nD pool)) = some (.list (nD (ss pool))) := biS (b := false) okp ndp
  have e4 : biD .tuple (.list (nD (ss pool))) = some (tD (ss pool)) := rfl
  have ls : (ss pool).length ≤ 5 := Nat.le_trans ss_len lp
  have srt := ss_sorted pool
  have oks : Oks (ss pool) := fun x hx => okp x (mem_ss.mp hx)
  generalize ss pool = tags at e3 e4 ls srt oks
  obtain ⟨ex, y3, s2, n3, hr, m1, m2, m3, g2⟩ := loop15 p11 srt ls (.dat (.int 5)) (.dat (.list (nD pool))) tags [] .un (K + 1) s1 (fun x e => by cases e) srt g1 (by omega) (by simp; omega)
  obtain ⟨ys, s3, r1, r2, g3⟩ := ev_y15 p11 ls (.dat (.int 5)) (.dat (.list (nD pool))) (.dat (.list (ex.map (pD true)))) y3 n3 g2 (by omega)
  refine ⟨⟨tags, ex, ys⟩, s3, ⟨oks, srt, ls, m1, by dsimp only; omega, m2, r1⟩, ?_, g3.mono (by omega)⟩
  have i1 : ∀ ρ, isOwn ρ l15 = false := fun _ => rfl
  have i2 : ∀ ρ, isOwn ρ y15 = false := fun _ => rfl
  have e5 : itemsOf (tD tags) = some (nD tags) := rfl
  have e6 : biD .tuple (.list (ex.map (pD true))) = some (.tuple (ex.map (pD true))) := rfl
  have e7 : biD .tuple (.list (nD ys)) = some (tD ys) := rfl
  simp only [List.map_nil, List.nil_append] at hr
  simp [ec, ev, evs, evas, evp, evo, evc, evAnd, evOr, evIt, exS, exB, ↓bind_eq, ↓lft_eq, ↓seq_eq, ↓turn_eq, ↓quiet_eq, pure_eq, go_eq, some_eq, none_eq, ↓run_eq, getSlot, isOwn, anyOwn, itOwn, ownAs, eoOwn, ↓tr_eq, truth, bindTg, Pd.bindAll, wipeE, ckLim, ckTup, startE, slotOf, freeze, srcSlot, atOwn, setPar, evPar, frM, frD, turnF, turnF2, turnK, keyOk, ckDic, lim_eq, itemsOf_sq, seqOf_sq, len_sq, tup_sq, idx_sq, at0, at1, at2, upF, i1, i2, e2, e3, e4, e5, e6, e7, hr, r2]
  rfl
end K02M
end
section
/-! K02: the law's own laps, what it hears. -/
namespace K02M
open PySem PyProof.Rows Pd Pm K02
def x17 : Ex := .comp (.idx (.slot 6) (.lit (.int 1))) [6] (.nm 6) (.ex (.idx (.slot 0) (.lit (.int 1)))) (.so (.conj (.cons (.cmp .In (.idx (.slot 6) (.lit (.int 0))) (.slot 4)) (.cons (.cmp .NotIn (.idx (.slot 6) (.lit (.int 1))) (.slot 3)) .nil))))
def b17 : Stas := (.cons (.ite (.cmp .NotEq (.slot 4) (.lst .nil)) (.cons (.app 2 (.bi .tuple (.slot 4)))
  .nil) .nil)
  (.cons (.asg 3 (.bin .Add (.slot 3) (.slot 4)))
  (.cons (.asg 5 x17)
  (.cons (.asg 4 (.sset (.slot 5)))
  .nil))))
def r17 : It := .rng1 (.bin .Add (.bi .len (.idx (.slot 0) (.lit (.int 0)))) (.lit (.int 1)))
def E17 (h : Hp) (x1 : Slot) (found : List (List Str)) (seen fresh : List Str) (x5 : Slot) : Pd.Env := [.dat (hD true h), x1, .own (found.map tD), .dat (.list (nD seen)), .dat (.list (nD fresh)), x5, .un]
def lat (h : Hp) (fresh seen : List Str) : List Str := (h.ptr.filter fun p => decide (p.1 ∈ fresh ∧ p.2 ∉ seen)).map (·.2)
theorem idx0 {h : Hp} : idxD (hD true h) (.int 0) = some (sq true (nD h.objs)) := by simp [hD, ev, evs, evas, evp, evo, evc, evAnd, evOr, evIt, exS, exB, ↓bind_eq, ↓lft_eq, ↓seq_eq, ↓turn_eq, ↓quiet_eq, pure_eq, go_eq, some_eq, none_eq, ↓run_eq, getSlot, isOwn, anyOwn, itOwn, ownAs, eoOwn, ↓tr_eq, truth, bindTg, Pd.bindAll, wipeE, ckLim, ckTup, startE, slotOf, freeze, srcSlot, atOwn, setPar, evPar, frM, frD, turnF, turnF2, turnK, keyOk, ckDic, lim_eq, itemsOf_sq, seqOf_sq, len_sq, tup_sq, idx_sq, at0, at1, at2, upF]
theorem ev_r17 (Φ : Nat → Fn) {h : Hp} (hl : h.objs.length ≤ 5) (s : Bx) (x1 x2 x3 x4 x5 x6 : Pd.Slot) : evIt Φ Cn r17 [.dat (hD true h), x1, x2, x3, x4, x5, x6] s = .ok (rangeD 0 (h.objs.length + 1)) s := by
  have e : ev Φ Cn (.bi .len (.idx (.slot 0) (.lit (.int 0)))) [.dat (hD true h), x1, x2, x3, x4, x5, x6] s = .ok (.int (h.objs.length : Int)) s := by
    simp [ev, ↓bind_eq, getSlot, pure_eq, some_eq, idx0, len_sq, nD_len]
  exact ev_rng1 (ev_succ e) (by omega)
section
variable {h : Hp} (o : Ok h)
include o
theorem ev_x17 (Φ : Nat → Fn) (s : Bx) (x1 x2 x5 : Slot) {seen fresh : List Str} (h1 : Oks seen) (h2 : Oks fresh) :
    ev Φ Cn x17 [.dat (hD true h), x1, x2, .dat (.list (nD seen)), .dat (.list (nD fresh)), x5, .un] s = .ok (.list (nD (lat h fresh seen))) s := by
  have := comp_if (Φ := Φ) (C := Cn) (elt := .idx (.slot 6) (.lit (.int 1))) (own := [6]) (tg := .nm 6) (it := .ex (.idx (.slot 0) (.lit (.int 1)))) (c := .so (.conj (.cons (.cmp .In (.idx (.slot 6) (.lit (.int 0))) (.slot 4)) (.cons (.cmp .NotIn (.idx (.slot 6) (.lit (.int 1))) (.slot 3)) .nil)))) (ρ := [.dat (hD true h), x1, x2, .dat (.list (nD seen)), .dat (.list (nD fresh)), x5, .un]) (s := s) (s1 := s) (xs := h.ptr) (g' := pD true) (h := fun p => .str p.2) (p := fun p => p.1 ∈ fresh ∧ p.2 ∉ seen) (by simp [ev, evs, evas, evp, evo, evc, evAnd, evOr, evIt, exS, exB, ↓bind_eq, ↓lft_eq, ↓seq_eq, ↓turn_eq, ↓quiet_eq, pure_eq, go_eq, some_eq, none_eq, ↓run_eq, getSlot, isOwn, anyOwn, itOwn, ownAs, eoOwn, ↓tr_eq, truth, bindTg, Pd.bindAll, wipeE, ckLim, ckTup, startE, slotOf, freeze, srcSlot, atOwn, setPar, evPar, frM, frD, turnF, turnF2, turnK, keyOk, ckDic, lim_eq, itemsOf_sq, seqOf_sq, len_sq, tup_sq, idx_sq, at0, at1, at2, upF, hD]) (by rfl) (fun p hp => by
    obtain ⟨m1, m2⟩ := o.pin p hp
    have e1 : inD (.str p.1) (.list (nD fresh)) = some (decide (p.1 ∈ fresh)) := inD_sq (b := false) (o.str _ m1) h2
    have e2 : inD (.str p.2) (.list (nD seen)) = some (decide (p.2 ∈ seen)) := inD_sq (b := false) (o.str _ m2) h1
    by_cases c1 : p.1 ∈ fresh <;> by_cases c2 : p.2 ∈ seen <;> simp [ev, evs, evas, evp, evo, evc, evAnd, evOr, evIt, exS, exB, ↓bind_eq, ↓lft_eq, ↓seq_eq, ↓turn_eq, ↓quiet_eq, pure_eq, go_eq, some_eq, none_eq, ↓run_eq, getSlot, isOwn, anyOwn, itOwn, ownAs, eoOwn, ↓tr_eq, truth, bindTg, Pd.bindAll, wipeE, ckLim, ckTup, startE, slotOf, freeze, srcSlot, atOwn, setPar, evPar, frM, frD, turnF, turnF2, turnK, keyOk, ckDic, lim_eq, itemsOf_sq, seqOf_sq, len_sq, tup_sq, idx_sq, at0, at1, at2, upF, cmpD, pD, e1, e2, c1, c2]) (by have := o.plen; omega)
  unfold x17
  rw [this]
  simp [nD, lat]
theorem nxt_eq {fresh seen : List Str} (hf : ∀ x ∈ fresh, x ∈ h.objs) : ss (lat h fresh seen) = nxt h fresh seen := by
  unfold nxt lat
  rw [ss_filter]
  refine ss_ext fun y => ?_
  simp only [List.mem_map, List.mem_filter, decide_eq_true_eq, List.mem_flatMap, tos]
  constructor
  · rintro ⟨p, ⟨hp, h1, h2⟩, rfl⟩
    exact ⟨⟨p.1, h1, p, ⟨hp, rfl⟩, rfl⟩, h2⟩
  · rintro ⟨⟨x, hx, p, ⟨hp, rfl⟩, rfl⟩, h2⟩
    exact ⟨p, ⟨hp, hx, h2⟩, rfl⟩
theorem loop17 (Φ : Nat → Fn) (s : Bx) : ∀ (n : Nat) (i : Int) (found : List (List Str)) (fresh seen : List Str) (x1 x5 : Slot), Inv h fresh seen → found.length + n ≤ 5000 → ∃ seen' fresh' y1 y5,
    frL (.nm 1) (exB Φ Cn b17) (rangeD i n) (E17 h x1 found seen fresh x5) s = .go .nx (E17 h y1 (found ++ rnd h n fresh seen) seen' fresh' y5) s
  | 0, i, found, fresh, seen, x1, x5, _, _ => ⟨seen, fresh, x1, x5, by rw [rnd, List.append_nil]; rfl⟩
  | n + 1, i, found, fresh, seen, x1, x5, iv, hf => by
    have hl := iv.len o
    have ho := o.len
    have hp := o.plen
    have hin : ∀ x ∈ fresh, x ∈ h.objs := fun x hx => iv.sub x (List.mem_append_right _ hx)
    have okf : Oks fresh := fun x hx => o.str x (hin x hx)
    have oks : Oks (seen ++ fresh) := fun x hx => o.str x (iv.sub x hx)
    have e1 := ev_x17 o Φ s (.dat (.int i)) (.own ((if fresh = [] then found else found ++ [fresh]).map tD)) x5 oks okf
    have e2 : ssetD (.list (nD (lat h fresh (seen ++ fresh)))) = some (.list (nD (nxt h fresh (seen ++ fresh)))) := by
      have := ssetD_sq (b := false) (xs := (lat h fresh (seen ++ fresh))) (fun x hx => by
        obtain ⟨p, hp, rfl⟩ := List.mem_map.mp hx
        exact o.str _ (o.pin p (List.mem_filter.mp hp).1).2) (by
        have := List.length_filter_le (fun p => decide (p.1 ∈ fresh ∧ p.2 ∉ seen ++ fresh)) h.ptr
        unfold lat
        rw [List.length_map]
        omega)
      rwa [nxt_eq o hin] at this
    have e3 : eqD (.list (nD fresh)) (.list []) = some (decide (fresh = [])) := eq_nil okf
    have e4 : binD .Add (.list (nD seen)) (.list (nD fresh)) = some (.list (nD (seen ++ fresh))) := by
      show (catL _ _).map PyData.list = _
      unfold catL
      rw [if_pos (by rw [nD_len, nD_len, lim_eq]; omega), nD_app]
      rfl
    have e5 : biD .tuple (.list (nD fresh)) = some (tD fresh) := rfl
    have lf : found.length < 16777216 := by omega
    have hb : exB Φ Cn b17 (E17 h (.dat (.int i)) found seen fresh x5) s = .go .nx (E17 h (.dat (.int i)) (if fresh = [] then found else found ++ [fresh]) (seen ++ fresh) (nxt h fresh (seen ++ fresh)) (.dat (.list (nD (lat h fresh (seen ++ fresh)))))) s := by
      have i1 : ∀ ρ, isOwn ρ x17 = false := fun _ => rfl
      by_cases c : fresh = []
      · rw [if_pos c] at e1
        rw [if_pos c]
        rw [decide_eq_true c] at e3
        simp [b17, E17, ev, evs, evas, evp, evo, evc, evAnd, evOr, evIt, exS, exB, ↓bind_eq, ↓lft_eq, ↓seq_eq, ↓turn_eq, ↓quiet_eq, pure_eq, go_eq, some_eq, none_eq, ↓run_eq, getSlot, isOwn, anyOwn, itOwn, ownAs, eoOwn, ↓tr_eq, truth, bindTg, Pd.bindAll, wipeE, ckLim, ckTup, startE, slotOf, freeze, srcSlot, atOwn, setPar, evPar, frM, frD, turnF, turnF2, turnK, keyOk, ckDic, lim_eq, itemsOf_sq, seqOf_sq, len_sq, tup_sq, idx_sq, at0, at1, at2, upF, cmpD, e3, e4, e5, i1, e1, e2]
      · rw [if_neg c] at e1
        rw [if_neg c]
        rw [decide_eq_false c] at e3
        rw [List.map_append, List.map_cons, List.map_nil] at e1
        simp [b17, E17, ev, evs, evas, evp, evo, evc, evAnd, evOr, evIt, exS, exB, ↓bind_eq, ↓lft_eq, ↓seq_eq, ↓turn_eq, ↓quiet_eq, pure_eq, go_eq, some_eq, none_eq, ↓run_eq, getSlot, isOwn, anyOwn, itOwn, ownAs, eoOwn, ↓tr_eq, truth, bindTg, Pd.bindAll, wipeE, ckLim, ckTup, startE, slotOf, freeze, srcSlot, atOwn, setPar, evPar, frM, frD, turnF, turnF2, turnK, keyOk, ckDic, lim_eq, itemsOf_sq, seqOf_sq, len_sq, tup_sq, idx_sq, at0, at1, at2, upF, cmpD, e3, e4, e5, i1, e1, e2, lf]
    obtain ⟨s', f', y1, y5, hr⟩ := loop17 Φ s n (i + 1) (if fresh = [] then found else found ++ [fresh]) (nxt h fresh (seen ++ fresh)) (seen ++ fresh) (.dat (.int i)) (.dat (.list (nD (lat h fresh (seen ++ fresh))))) (Inv.nxt o iv) (by split <;> (try simp) <;> omega)
    refine ⟨s', f', y1, y5, ?_⟩
    have e6 : found ++ rnd h (n + 1) fresh seen = (if fresh = [] then found else found ++ [fresh]) ++ rnd h n (nxt h fresh (seen ++ fresh)) (seen ++ fresh) := by
      rw [rnd]
      by_cases c : fresh = []
      · rw [if_pos c, if_pos c, c]
        have : nxt h [] (seen ++ []) = [] := rfl
        rw [this]
        cases n <;> rfl
      · rw [if_neg c, if_neg c]
        simp
    rw [e6, ← hr]
    show lft _ _ _ s = _
    rw [lft_eq]
    show SM.turn (exB Φ Cn b17 (E17 h (.dat (.int i)) found seen fresh x5)) _ s = _
    rw [turn_eq, hb]
theorem len5000 : ([] : List (List Str)).length + (h.objs.length + 1) ≤ 5000 := by
  have := o.len
  rw [List.length_nil]
  omega
theorem f17 (s : Bx) : F17 [.dat (hD true h)] s = .ok (.tuple ((laps h).map tD)) s := by
  have hb5 := len5000 o
  have eF : F17 = runFn (upF Fs16 17 badF) Cn 7 1 c17 := rfl
  rw [eF]
  clear eF
  generalize upF Fs16 17 badF = Φ at *
  have ho := o.len
  have hrl := o.rin.length_le
  have ec : c17 = (.cons (.par [(2, true), (3, false), (4, false)] (.cons (.lst .nil) (.cons (.lst .nil) (.cons (.bi .sorted (.idx (.slot 0) (.lit (.int 2)))) .nil))))
    (.cons (.fr (.nm 1) r17 b17) (.cons (.ret (.bi .tuple (.slot 2))) .nil))) := rfl
  have i2 : idxD (hD true h) (.int 2) = some (sq true (nD h.roots)) := by simp [hD, ev, evs, evas, evp, evo, evc, evAnd, evOr, evIt, exS, exB, ↓bind_eq, ↓lft_eq, ↓seq_eq, ↓turn_eq, ↓quiet_eq, pure_eq, go_eq, some_eq, none_eq, ↓run_eq, getSlot, isOwn, anyOwn, itOwn, ownAs, eoOwn, ↓tr_eq, truth, bindTg, Pd.bindAll, wipeE, ckLim, ckTup, startE, slotOf, freeze, srcSlot, atOwn, setPar, evPar, frM, frD, turnF, turnF2, turnK, keyOk, ckDic, lim_eq, itemsOf_sq, seqOf_sq, len_sq, tup_sq, idx_sq, at0, at1, at2, upF]
  have e2 : biD .sorted (sq true (nD h.roots)) = some (.list (nD h.roots)) := by
    have := biS (b := true) (xs := h.roots) (fun x hx => o.str x (o.rin.subset hx)) (o.nd.sublist o.rin)
    rwa [ss_self (o.srt.sublist o.rin)] at this
  have e3 := ev_r17 Φ (h := h) ho s .un (.own []) (.dat (.list [])) (.dat (.list (nD h.roots))) .un .un
  obtain ⟨s', f', y1, y5, hr⟩ := loop17 o Φ s (h.objs.length + 1) 0 [] h.roots [] .un .un (inv0 o) hb5
  have hr : frL (.nm 1) (exB Φ Cn b17) (rangeD 0 (h.objs.length + 1)) [.dat (hD true h), .un, .own [], .dat (.list []), .dat (.list (nD h.roots)), .un, .un] s = .go .nx (E17 h y1 (laps h) s' f' y5) s := hr
  have j1 : ∀ ρ, itOwn ρ r17 = false := fun _ => rfl
  have j2 : srcSlot r17 = none := rfl
  have e7 : biD .tuple (.list ((laps h).map tD)) = some (.tuple ((laps h).map tD)) := rfl
  have s1 : exS Φ Cn (.par [(2, true), (3, false), (4, false)] (.cons (.lst .nil) (.cons (.lst .nil) (.cons (.bi .sorted (.idx (.slot 0) (.lit (.int 2)))) .nil)))) [.dat (hD true h), .un, .un, .un, .un, .un, .un] s = .go .nx [.dat (hD true h), .un, .own [], .dat (.list []), .dat (.list (nD h.roots)), .un, .un] s := by
    simp [ev, evs, evas, evp, evo, evc, evAnd, evOr, evIt, exS, exB, ↓bind_eq, ↓lft_eq, ↓seq_eq, ↓turn_eq, ↓quiet_eq, pure_eq, go_eq, some_eq, none_eq, ↓run_eq, getSlot, isOwn, anyOwn, itOwn, ownAs, eoOwn, ↓tr_eq, truth, bindTg, Pd.bindAll, wipeE, ckLim, ckTup, startE, slotOf, freeze, srcSlot, atOwn, setPar, evPar, frM, frD, turnF, turnF2, turnK, keyOk, ckDic, lim_eq, itemsOf_sq, seqOf_sq, len_sq, tup_sq, idx_sq, at0, at1, at2, upF, i2, e2]
  have s2 : exS Φ Cn (.fr (.nm 1) r17 b17) [.dat (hD true h), .un, .own [], .dat (.list []), .dat (.list (nD h.roots)), .un, .un] s = .go .nx (E17 h y1 (laps h) s' f' y5) s := (exS_fr rfl e3).trans hr
  have s3 : exS Φ Cn (.ret (.bi .tuple (.slot 2))) (E17 h y1 (laps h) s' f' y5) s = .go (.ret (.tuple ((laps h).map tD))) (E17 h y1 (laps h) s' f' y5) s := by
    simp [ev, evs, evas, evp, evo, evc, evAnd, evOr, evIt, exS, exB, ↓bind_eq, ↓lft_eq, ↓seq_eq, ↓turn_eq, ↓quiet_eq, pure_eq, go_eq, some_eq, none_eq, ↓run_eq, getSlot, isOwn, anyOwn, itOwn, ownAs, eoOwn, ↓tr_eq, truth, bindTg, Pd.bindAll, wipeE, ckLim, ckTup, startE, slotOf, freeze, srcSlot, atOwn, setPar, evPar, frM, frD, turnF, turnF2, turnK, keyOk, ckDic, lim_eq, itemsOf_sq, seqOf_sq, len_sq, tup_sq, idx_sq, at0, at1, at2, upF, E17, e7]
  rw [ec]
  exact run_ret rfl ((exB_nx s1).trans ((exB_nx s2).trans (exB_ret s3)))
end
end K02M
end
section
/-! K02: what the law hears, one tag's answers. -/
namespace K02M
open PySem PyProof.Rows Pd Pm K02
def lD (h : Hp) : D := .tuple ((laps h).map tD)
section
variable {h : Hp} (o : Ok h)
include o
theorem f16_0 {x : Str} (hx : x ∈ h.objs) (s : Bx) : F16 [.dat (.int 0), .dat (hD true h), .dat (.str x)] s = .ok (tD (tos h x)) s := by
  have p7 : upF Fs15 16 badF 7 = F7 := rfl
  have eF : F16 = runFn (upF Fs15 16 badF) Cn 6 3 c16 := rfl
  rw [eF]
  clear eF
  have e7 := f7 o true s hx
  generalize upF Fs15 16 badF = Φ at *
  simp [c16, ev, evs, evas, evp, evo, evc, evAnd, evOr, evIt, exS, exB, ↓bind_eq, ↓lft_eq, ↓seq_eq, ↓turn_eq, ↓quiet_eq, pure_eq, go_eq, some_eq, none_eq, ↓run_eq, getSlot, isOwn, anyOwn, itOwn, ownAs, eoOwn, ↓tr_eq, truth, bindTg, Pd.bindAll, wipeE, ckLim, ckTup, startE, slotOf, freeze, srcSlot, atOwn, setPar, evPar, frM, frD, turnF, turnF2, turnK, keyOk, ckDic, lim_eq, itemsOf_sq, seqOf_sq, len_sq, tup_sq, idx_sq, at0, at1, at2, upF, cmpD, eqD, p7, e7]
theorem f16_1 {x : Str} (hx : x ∈ h.objs) (s : Bx) : F16 [.dat (.int 1), .dat (hD true h), .dat (.str x)] s = .ok (tD (froms h x)) s := by
  have p8 : upF Fs15 16 badF 8 = F8 := rfl
  have eF : F16 = runFn (upF Fs15 16 badF) Cn 6 3 c16 := rfl
  rw [eF]
  clear eF
  have e8 := f8 o true s hx
  generalize upF Fs15 16 badF = Φ at *
  simp [c16, ev, evs, evas, evp, evo, evc, evAnd, evOr, evIt, exS, exB, ↓bind_eq, ↓lft_eq, ↓seq_eq, ↓turn_eq, ↓quiet_eq, pure_eq, go_eq, some_eq, none_eq, ↓run_eq, getSlot, isOwn, anyOwn, itOwn, ownAs, eoOwn, ↓tr_eq, truth, bindTg, Pd.bindAll, wipeE, ckLim, ckTup, startE, slotOf, freeze, srcSlot, atOwn, setPar, evPar, frM, frD, turnF, turnF2, turnK, keyOk, ckDic, lim_eq, itemsOf_sq, seqOf_sq, len_sq, tup_sq, idx_sq, at0, at1, at2, upF, cmpD, eqD, p8, e8]
theorem f16_2 {x : Str} (hx : x ∈ h.objs) (s : Bx) : F16 [.dat (.int 2), .dat (hD true h), .dat (.str x)] s = .ok (spotD h x) s := by
  have p9 : upF Fs15 16 badF 9 = F9 := rfl
  have eF : F16 = runFn (upF Fs15 16 badF) Cn 6 3 c16 := rfl
  rw [eF]
  clear eF
  have e9 := f9 o true s hx
  generalize upF Fs15 16 badF = Φ at *
  simp [c16, ev, evs, evas, evp, evo, evc, evAnd, evOr, evIt, exS, exB, ↓bind_eq, ↓lft_eq, ↓seq_eq, ↓turn_eq, ↓quiet_eq, pure_eq, go_eq, some_eq, none_eq, ↓run_eq, getSlot, isOwn, anyOwn, itOwn, ownAs, eoOwn, ↓tr_eq, truth, bindTg, Pd.bindAll, wipeE, ckLim, ckTup, startE, slotOf, freeze, srcSlot, atOwn, setPar, evPar, frM, frD, turnF, turnF2, turnK, keyOk, ckDic, lim_eq, itemsOf_sq, seqOf_sq, len_sq, tup_sq, idx_sq, at0, at1, at2, upF, cmpD, eqD, p9, e9]
end
def xa : Ex := .comp (.slot 11) [11, 4] (.tp [11, 4]) (.enum (.slot 8)) (.so (.cmp .In (.slot 7) (.slot 4)))
def xb : Ex := .comp (.idx (.slot 12) (.lit (.int 1))) [12] (.nm 12) (.ex (.idx (.slot 2) (.lit (.int 1)))) (.so (.cmp .Eq (.idx (.slot 12) (.lit (.int 0))) (.slot 7)))
def xc : Ex := .comp (.idx (.slot 12) (.lit (.int 0))) [12] (.nm 12) (.ex (.idx (.slot 2) (.lit (.int 1)))) (.so (.cmp .Eq (.idx (.slot 12) (.lit (.int 1))) (.slot 7)))
def xd : Ex := .comp (.call 16 (.cons (.slot 11) (.cons (.slot 2) (.cons (.slot 7) .nil)))) [11] (.nm 11) (.rng1 (.lit (.int 3))) .no
def xe : Ex := .ite (.cmp .NotEq (.slot 10) (.lst .nil)) (.idx (.slot 10) (.lit (.int 0))) (.lit .none)
def t19 : Stas := (.cons (.asg 10 xa)
  (.cons (.own 5 (.lst (.cons (.bi .tuple xb) .nil)))
  (.cons (.own 5 (.bin .Add (.slot 5) (.lst (.cons (.bi .tuple xc) .nil))))
  (.cons (.app 5 xe)
  (.cons (.ite (.nt (.call 13 (.cons xd (.cons (.slot 5) .nil)))) (.cons (.ret (.lit (.bool false)))
  .nil) .nil)
  .nil)))))
def T (h : Hp) (x1 x3 x4 x5 x6 x7 x9 x10 : Slot) : Pd.Env := [.box, x1, .dat (hD true h), x3, x4, x5, x6, x7, .dat (lD h), x9, x10, .un, .un]
theorem eq_ints (ks : List Int) : eqD (.list (ks.map fun k => .int k)) (.list []) = some (decide (ks = [])) := by
  have h2 : shp (.list []) = true := rfl
  have h1 : shp (.list (ks.map fun k => .int k)) = true := by
    have : PyData.canLayAll0 (ks.map fun k => .int k) = true ∧ PyData.depthAll (ks.map fun k => .int k) = 0 := by
      induction ks with
      | nil => exact ⟨rfl, rfl⟩
      | cons k r ih =>
        obtain ⟨a, b⟩ := ih
        constructor
        · show (PyData.canLay0 (.int k) && PyData.canLayAll0 (r.map fun k => .int k)) = true
          rw [a]
          simp [PyData.canLay0]
        · show max (PyData.depth (.int k)) (PyData.depthAll (r.map fun k => .int k)) = 0
          rw [b]
          rfl
    unfold shp SeqAt.shaped
    simp [PyData.canLay0, PyData.depth, this.1, this.2]
  show (if shp (.list (ks.map fun k => .int k)) && shp (.list []) then some (PyData.eqv (.list (ks.map fun k => .int k)) (.list [])) else none) = _
  rw [h1, h2]
  cases ks <;> rfl
section
variable {h : Hp} (o : Ok h) {x : Str} (hx : x ∈ h.objs) (Φ : Nat → Fn) (s : Bx) (x1 x3 x4 x5 x6 x9 x10 : Slot)
include o hx
theorem ev_xa (n4 : ∀ d, x4 ≠ .own d) : ev Φ Cn xa (T h x1 x3 x4 x5 x6 (.dat (.str x)) x9 x10) s = .ok (.list ((spots h x).map fun p => .int p.1)) s := by
  unfold xa
  refine comp_if (xs := (laps h).zipIdx.map fun p => ((p.2 : Nat), p.1)) (g' := fun p : Nat × List Str => .tuple [.int p.1, tD p.2]) (h := fun p => .int p.1) (p := fun p => x ∈ p.2) ?_ ?_ (fun p hp => ?_) ?_
  · have := enumD_map (g := tD) (xs := laps h) (k := 0)
    simp [ev, evs, evas, evp, evo, evc, evAnd, evOr, evIt, exS, exB, ↓bind_eq, ↓lft_eq, ↓seq_eq, ↓turn_eq, ↓quiet_eq, pure_eq, go_eq, some_eq, none_eq, ↓run_eq, getSlot, isOwn, anyOwn, itOwn, ownAs, eoOwn, ↓tr_eq, truth, bindTg, Pd.bindAll, wipeE, ckLim, ckTup, startE, slotOf, freeze, srcSlot, atOwn, setPar, evPar, frM, frD, turnF, turnF2, turnK, keyOk, ckDic, lim_eq, itemsOf_sq, seqOf_sq, len_sq, tup_sq, idx_sq, at0, at1, at2, upF, T, lD, enmD]
    exact this
  · cases x4 with
    | own d => exact absurd rfl (n4 d)
    | _ => rfl
  · have hp2 : Oks p.2 := fun y hy => by
      obtain ⟨q, hq, rfl⟩ := List.mem_map.mp hp
      exact o.str y (laps_in o y (List.mem_flatten.mpr ⟨q.1, (List.mem_zipIdx' hq).2 ▸ List.getElem_mem _, hy⟩))
    have e2 : inD (.str x) (tD p.2) = some (decide (x ∈ p.2)) := inD_sq (b := true) (o.str x hx) hp2
    by_cases e : x ∈ p.2 <;> simp [ev, evs, evas, evp, evo, evc, evAnd, evOr, evIt, exS, exB, ↓bind_eq, ↓lft_eq, ↓seq_eq, ↓turn_eq, ↓quiet_eq, pure_eq, go_eq, some_eq, none_eq, ↓run_eq, getSlot, isOwn, anyOwn, itOwn, ownAs, eoOwn, ↓tr_eq, truth, bindTg, Pd.bindAll, wipeE, ckLim, ckTup, startE, slotOf, freeze, srcSlot, atOwn, setPar, evPar, frM, frD, turnF, turnF2, turnK, keyOk, ckDic, lim_eq, itemsOf_sq, seqOf_sq, len_sq, tup_sq, idx_sq, at0, at1, at2, upF, T, cmpD, e2, e]
  · have := laps_len o
    simp
    omega
theorem ev_xb : ev Φ Cn xb (T h x1 x3 x4 x5 x6 (.dat (.str x)) x9 x10) s = .ok (.list (nD (tos h x))) s := by
  have := comp_if (Φ := Φ) (C := Cn) (elt := .idx (.slot 12) (.lit (.int 1))) (own := [12]) (tg := .nm 12) (it := .ex (.idx (.slot 2) (.lit (.int 1)))) (c := .so (.cmp .Eq (.idx (.slot 12) (.lit (.int 0))) (.slot 7))) (ρ := T h x1 x3 x4 x5 x6 (.dat (.str x)) x9 x10) (s := s) (s1 := s) (xs := h.ptr) (g' := pD true) (h := fun p => .str p.2) (p := fun p => p.1 = x) (by simp [ev, evs, evas, evp, evo, evc, evAnd, evOr, evIt, exS, exB, ↓bind_eq, ↓lft_eq, ↓seq_eq, ↓turn_eq, ↓quiet_eq, pure_eq, go_eq, some_eq, none_eq, ↓run_eq, getSlot, isOwn, anyOwn, itOwn, ownAs, eoOwn, ↓tr_eq, truth, bindTg, Pd.bindAll, wipeE, ckLim, ckTup, startE, slotOf, freeze, srcSlot, atOwn, setPar, evPar, frM, frD, turnF, turnF2, turnK, keyOk, ckDic, lim_eq, itemsOf_sq, seqOf_sq, len_sq, tup_sq, idx_sq, at0, at1, at2, upF, T, hD]) (by rfl) (fun p hp => by
    by_cases e : p.1 = x <;> simp [ev, evs, evas, evp, evo, evc, evAnd, evOr, evIt, exS, exB, ↓bind_eq, ↓lft_eq, ↓seq_eq, ↓turn_eq, ↓quiet_eq, pure_eq, go_eq, some_eq, none_eq, ↓run_eq, getSlot, isOwn, anyOwn, itOwn, ownAs, eoOwn, ↓tr_eq, truth, bindTg, Pd.bindAll, wipeE, ckLim, ckTup, startE, slotOf, freeze, srcSlot, atOwn, setPar, evPar, frM, frD, turnF, turnF2, turnK, keyOk, ckDic, lim_eq, itemsOf_sq, seqOf_sq, len_sq, tup_sq, idx_sq, at0, at1, at2, upF, T, cmpD, eqD, pD, e]) (by have := o.plen; omega)
  unfold xb
  rw [this]
  simp [tos, nD]
theorem ev_xc : ev Φ Cn xc (T h x1 x3 x4 x5 x6 (.dat (.str x)) x9 x10) s = .ok (.list (nD (froms h x))) s := by
  have := comp_if (Φ := Φ) (C := Cn) (elt := .idx (.slot 12) (.lit (.int 0))) (own := [12]) (tg := .nm 12) (it := .ex (.idx (.slot 2) (.lit (.int 1)))) (c := .so (.cmp .Eq (.idx (.slot 12) (.lit (.int 1))) (.slot 7))) (ρ := T h x1 x3 x4 x5 x6 (.dat (.str x)) x9 x10) (s := s) (s1 := s) (xs := h.ptr) (g' := pD true) (h := fun p => .str p.1) (p := fun p => p.2 = x) (by simp [ev, evs, evas, evp, evo, evc, evAnd, evOr, evIt, exS, exB, ↓bind_eq, ↓lft_eq, ↓seq_eq, ↓turn_eq, ↓quiet_eq, pure_eq, go_eq, some_eq, none_eq, ↓run_eq, getSlot, isOwn, anyOwn, itOwn, ownAs, eoOwn, ↓tr_eq, truth, bindTg, Pd.bindAll, wipeE, ckLim, ckTup, startE, slotOf, freeze, srcSlot, atOwn, setPar, evPar, frM, frD, turnF, turnF2, turnK, keyOk, ckDic, lim_eq, itemsOf_sq, seqOf_sq, len_sq, tup_sq, idx_sq, at0, at1, at2, upF, T, hD]) (by rfl) (fun p hp => by
    by_cases e : p.2 = x <;> simp [ev, evs, evas, evp, evo, evc, evAnd, evOr, evIt, exS, exB, ↓bind_eq, ↓lft_eq, ↓seq_eq, ↓turn_eq, ↓quiet_eq, pure_eq, go_eq, some_eq, none_eq, ↓run_eq, getSlot, isOwn, anyOwn, itOwn, ownAs, eoOwn, ↓tr_eq, truth, bindTg, Pd.bindAll, wipeE, ckLim, ckTup, startE, slotOf, freeze, srcSlot, atOwn, setPar, evPar, frM, frD, turnF, turnF2, turnK, keyOk, ckDic, lim_eq, itemsOf_sq, seqOf_sq, len_sq, tup_sq, idx_sq, at0, at1, at2, upF, T, cmpD, eqD, pD, e]) (by have := o.plen; omega)
  unfold xc
  rw [this]
  simp [froms, nD]
theorem ev_xd (p16 : Φ 16 = F16) : ev Φ Cn xd (T h x1 x3 x4 x5 x6 (.dat (.str x)) x9 x10) s = .ok (.list [tD (tos h x), tD (froms h x), spotD h x]) s := by
  have e0 := f16_0 o hx s
  have e1 := f16_1 o hx s
  have e2 := f16_2 o hx s
  have := comp_map (Φ := Φ) (C := Cn) (elt := .call 16 (.cons (.slot 11) (.cons (.slot 2) (.cons (.slot 7) .nil)))) (own := [11]) (tg := .nm 11) (it := .rng1 (.lit (.int 3))) (c := .no) (ρ := T h x1 x3 x4 x5 x6 (.dat (.str x)) x9 x10) (s := s) (s1 := s) (xs := [((0 : Int), tD (tos h x)), (1, tD (froms h x)), (2, spotD h x)]) (g' := fun p => .int p.1) (h := fun p => p.2) (ev_rng1 (n := 3) rfl (by decide)) (by rfl) (fun p hp => by
    simp only [List.mem_cons, List.not_mem_nil, or_false] at hp
    rcases hp with rfl | rfl | rfl
    · simp [ev, evs, evas, evp, evo, evc, evAnd, evOr, evIt, exS, exB, ↓bind_eq, ↓lft_eq, ↓seq_eq, ↓turn_eq, ↓quiet_eq, pure_eq, go_eq, some_eq, none_eq, ↓run_eq, getSlot, isOwn, anyOwn, itOwn, ownAs, eoOwn, ↓tr_eq, truth, bindTg, Pd.bindAll, wipeE, ckLim, ckTup, startE, slotOf, freeze, srcSlot, atOwn, setPar, evPar, frM, frD, turnF, turnF2, turnK, keyOk, ckDic, lim_eq, itemsOf_sq, seqOf_sq, len_sq, tup_sq, idx_sq, at0, at1, at2, upF, T, p16, e0]
    · simp [ev, evs, evas, evp, evo, evc, evAnd, evOr, evIt, exS, exB, ↓bind_eq, ↓lft_eq, ↓seq_eq, ↓turn_eq, ↓quiet_eq, pure_eq, go_eq, some_eq, none_eq, ↓run_eq, getSlot, isOwn, anyOwn, itOwn, ownAs, eoOwn, ↓tr_eq, truth, bindTg, Pd.bindAll, wipeE, ckLim, ckTup, startE, slotOf, freeze, srcSlot, atOwn, setPar, evPar, frM, frD, turnF, turnF2, turnK, keyOk, ckDic, lim_eq, itemsOf_sq, seqOf_sq, len_sq, tup_sq, idx_sq, at0, at1, at2, upF, T, p16, e1]
    · simp [ev, evs, evas, evp, evo, evc, evAnd, evOr, evIt, exS, exB, ↓bind_eq, ↓lft_eq, ↓seq_eq, ↓turn_eq, ↓quiet_eq, pure_eq, go_eq, some_eq, none_eq, ↓run_eq, getSlot, isOwn, anyOwn, itOwn, ownAs, eoOwn, ↓tr_eq, truth, bindTg, Pd.bindAll, wipeE, ckLim, ckTup, startE, slotOf, freeze, srcSlot, atOwn, setPar, evPar, frM, frD, turnF, turnF2, turnK, keyOk, ckDic, lim_eq, itemsOf_sq, seqOf_sq, len_sq, tup_sq, idx_sq, at0, at1, at2, upF, T, p16, e2]) (by simp)
  exact this
theorem ev_xe : ev Φ Cn xe (T h x1 x3 x4 x5 x6 (.dat (.str x)) x9 (.dat (.list ((spots h x).map fun p => .int p.1)))) s = .ok (spotD h x) s := by
  have e1 : eqD (.list ((spots h x).map fun p => .int p.1)) (.list []) = some (decide (spots h x = [])) := by
    have := eq_ints ((spots h x).map fun p => (p.1 : Int))
    rw [List.map_map] at this
    have e : ((spots h x).map (fun p => (p.1 : Int)) = []) = (spots h x = []) := by simp
    simp only [e] at this
    exact this
  unfold spotD
  cases e : spots h x with
  | nil =>
    rw [e] at e1
    simp only [List.map_nil] at e1
    simp [xe, ev, evs, evas, evp, evo, evc, evAnd, evOr, evIt, exS, exB, ↓bind_eq, ↓lft_eq, ↓seq_eq, ↓turn_eq, ↓quiet_eq, pure_eq, go_eq, some_eq, none_eq, ↓run_eq, getSlot, isOwn, anyOwn, itOwn, ownAs, eoOwn, ↓tr_eq, truth, bindTg, Pd.bindAll, wipeE, ckLim, ckTup, startE, slotOf, freeze, srcSlot, atOwn, setPar, evPar, frM, frD, turnF, turnF2, turnK, keyOk, ckDic, lim_eq, itemsOf_sq, seqOf_sq, len_sq, tup_sq, idx_sq, at0, at1, at2, upF, T, cmpD, e1]
  | cons p r =>
    rw [e] at e1
    have q1 : idxD (.list (.int p.1 :: r.map fun p => .int p.1)) (.int 0) = some (.int p.1) := at0 _ _
    simp only [List.map_cons] at e1
    simp [xe, ev, evs, evas, evp, evo, evc, evAnd, evOr, evIt, exS, exB, ↓bind_eq, ↓lft_eq, ↓seq_eq, ↓turn_eq, ↓quiet_eq, pure_eq, go_eq, some_eq, none_eq, ↓run_eq, getSlot, isOwn, anyOwn, itOwn, ownAs, eoOwn, ↓tr_eq, truth, bindTg, Pd.bindAll, wipeE, ckLim, ckTup, startE, slotOf, freeze, srcSlot, atOwn, setPar, evPar, frM, frD, turnF, turnF2, turnK, keyOk, ckDic, lim_eq, itemsOf_sq, seqOf_sq, len_sq, tup_sq, idx_sq, at0, at1, at2, upF, T, cmpD, e1, q1]
end
end K02M
end
section
/-! K02: the law is true. -/
namespace K02M
open PySem PyProof.Rows Pd Pm K02
theorem gd_t (m : Nat) {xs : List Str} (h : xs.length ≤ 16777216) : gd (m + 2) (tD xs) := ⟨by rw [nD_len]; exact h, fun d hd => by
  obtain ⟨x, _, rfl⟩ := List.mem_map.mp hd
  trivial⟩
theorem gd_spot (m : Nat) (h : Hp) (x : Str) : gd (m + 1) (spotD h x) := by
  unfold spotD
  cases spots h x <;> trivial
section
variable {h : Hp} (o : Ok h)
include o
theorem laps_each {lot : List Str} (hl : lot ∈ laps h) : lot.length ≤ 5 := by
  have h1 : ∀ x ∈ lot, x ∈ h.objs := fun x hx => laps_in o x (List.mem_flatten.mpr ⟨lot, hl, hx⟩)
  have h2 : lot.Nodup := (laps_nodup o).sublist (sub_flat hl)
  exact Nat.le_trans (nodup_len h2 h1) o.len
theorem gd_l (m : Nat) : gd (m + 3) (lD h) := ⟨by
  have := laps_len o
  rw [List.length_map]
  omega, fun d hd => by
  obtain ⟨x, hx, rfl⟩ := List.mem_map.mp hd
  exact gd_t m (by have := laps_each o hx; omega)⟩
theorem step19 {Φ : Nat → Fn} (p13 : Φ 13 = F13) (p16 : Φ 16 = F16) {x : Str} (hx : x ∈ h.objs) (s : Bx) (x1 x3 x4 x5 x6 x9 x10 : Slot) (n4 : ∀ d, x4 ≠ .own d) :
    ∃ y5 y10, exB Φ Cn t19 (T h x1 x3 x4 x5 x6 (.dat (.str x)) x9 x10) s = .go .nx (T h x1 x3 x4 y5 x6 (.dat (.str x)) x9 y10) s := by
  have sp : List Nat := []
  have a1 : exS Φ Cn (.asg 10 xa) (T h x1 x3 x4 x5 x6 (.dat (.str x)) x9 x10) s = .go .nx (T h x1 x3 x4 x5 x6 (.dat (.str x)) x9 (.dat (.list ((spots h x).map fun p => .int p.1)))) s := by
    rw [exS]
    show lft _ _ _ s = _
    rw [lft_eq, ev_xa o hx Φ s x1 x3 x4 x5 x6 x9 x10 n4]
    rfl
  have q1 : biD .tuple (.list (nD (tos h x))) = some (tD (tos h x)) := rfl
  have q2 : biD .tuple (.list (nD (froms h x))) = some (tD (froms h x)) := rfl
  have a2 : exS Φ Cn (.own 5 (.lst (.cons (.bi .tuple xb) .nil))) (T h x1 x3 x4 x5 x6 (.dat (.str x)) x9 (.dat (.list ((spots h x).map fun p => .int p.1)))) s = .go .nx (T h x1 x3 x4 (.own [tD (tos h x)]) x6 (.dat (.str x)) x9 (.dat (.list ((spots h x).map fun p => .int p.1)))) s := by
    have e := ev_xb o hx Φ s x1 x3 x4 x5 x6 x9 (.dat (.list ((spots h x).map fun p => .int p.1)))
    simp [ev, evs, evas, evp, evo, evc, evAnd, evOr, evIt, exS, exB, ↓bind_eq, ↓lft_eq, ↓seq_eq, ↓turn_eq, ↓quiet_eq, pure_eq, go_eq, some_eq, none_eq, ↓run_eq, getSlot, isOwn, anyOwn, itOwn, ownAs, eoOwn, ↓tr_eq, truth, bindTg, Pd.bindAll, wipeE, ckLim, ckTup, startE, slotOf, freeze, srcSlot, atOwn, setPar, evPar, frM, frD, turnF, turnF2, turnK, keyOk, ckDic, lim_eq, itemsOf_sq, seqOf_sq, len_sq, tup_sq, idx_sq, at0, at1, at2, upF, e, q1]
    rfl
  have a3 : exS Φ Cn (.own 5 (.bin .Add (.slot 5) (.lst (.cons (.bi .tuple xc) .nil)))) (T h x1 x3 x4 (.own [tD (tos h x)]) x6 (.dat (.str x)) x9 (.dat (.list ((spots h x).map fun p => .int p.1)))) s = .go .nx (T h x1 x3 x4 (.own [tD (tos h x), tD (froms h x)]) x6 (.dat (.str x)) x9 (.dat (.list ((spots h x).map fun p => .int p.1)))) s := by
    have e := ev_xc o hx Φ s x1 x3 x4 (.own [tD (tos h x)]) x6 x9 (.dat (.list ((spots h x).map fun p => .int p.1)))
    have e2 : getSlot (T h x1 x3 x4 (.own [tD (tos h x)]) x6 (.dat (.str x)) x9 (.dat (.list ((spots h x).map fun p => .int p.1)))) 5 s = .ok (.list [tD (tos h x)]) s := rfl
    have e3 : binD .Add (.list [tD (tos h x)]) (.list [tD (froms h x)]) = some (.list [tD (tos h x), tD (froms h x)]) := cat_ok (by simp)
    simp [ev, evs, exS, isOwn, ↓bind_eq, ↓lft_eq, pure_eq, some_eq, e, e2, q2, e3, ckLim, lim_eq, go_eq]
    rfl
  have a4 : exS Φ Cn (.app 5 xe) (T h x1 x3 x4 (.own [tD (tos h x), tD (froms h x)]) x6 (.dat (.str x)) x9 (.dat (.list ((spots h x).map fun p => .int p.1)))) s = .go .nx (T h x1 x3 x4 (.own [tD (tos h x), tD (froms h x), spotD h x]) x6 (.dat (.str x)) x9 (.dat (.list ((spots h x).map fun p => .int p.1)))) s := by
    have e := ev_xe o hx Φ s x1 x3 x4 (.own [tD (tos h x), tD (froms h x)]) x6 x9
    rw [exS]
    show lft _ _ _ s = _
    rw [lft_eq, e]
    show (if _ then _ else _ : SM) s = _
    rw [if_pos (by rw [lim_eq]; simp)]
    rfl
  have a5 : exS Φ Cn (.ite (.nt (.call 13 (.cons xd (.cons (.slot 5) .nil)))) (.cons (.ret (.lit (.bool false))) .nil) .nil) (T h x1 x3 x4 (.own [tD (tos h x), tD (froms h x), spotD h x]) x6 (.dat (.str x)) x9 (.dat (.list ((spots h x).map fun p => .int p.1)))) s = .go .nx (T h x1 x3 x4 (.own [tD (tos h x), tD (froms h x), spotD h x]) x6 (.dat (.str x)) x9 (.dat (.list ((spots h x).map fun p => .int p.1)))) s := by
    have e := ev_xd o hx Φ s x1 x3 x4 (.own [tD (tos h x), tD (froms h x), spotD h x]) x6 x9 (.dat (.list ((spots h x).map fun p => .int p.1))) p16
    have e2 : getSlot (T h x1 x3 x4 (.own [tD (tos h x), tD (froms h x), spotD h x]) x6 (.dat (.str x)) x9 (.dat (.list ((spots h x).map fun p => .int p.1)))) 5 s = .ok (.list [tD (tos h x), tD (froms h x), spotD h x]) s := rfl
    have hg : gd 8 (.list [tD (tos h x), tD (froms h x), spotD h x]) := ⟨by simp, fun d hd => by
      simp only [List.mem_cons, List.not_mem_nil, or_false] at hd
      rcases hd with rfl | rfl | rfl
      · exact gd_t 5 (by have := tos_len o x; omega)
      · exact gd_t 5 (by have := froms_len o x; omega)
      · exact gd_spot 6 h x⟩
    have e3 := f13 hg s
    have e4 : ownAs (T h x1 x3 x4 (.own [tD (tos h x), tD (froms h x), spotD h x]) x6 (.dat (.str x)) x9 (.dat (.list ((spots h x).map fun p => .int p.1)))) (.cons xd (.cons (.slot 5) .nil)) = true := rfl
    have e5 : noLk (F13 [.dat (.list [tD (tos h x), tD (froms h x), spotD h x]), .dat (.list [tD (tos h x), tD (froms h x), spotD h x])]) s = .ok (.bool true) s := by
      rw [noLk_eq, e3]
      rfl
    simp [ev, evas, exS, exB, ↓bind_eq, ↓lft_eq, ↓tr_eq, truth, pure_eq, some_eq, go_eq, e, e2, e4, e5, p13]
  exact ⟨_, _, (exB_nx a1).trans ((exB_nx a2).trans ((exB_nx a3).trans ((exB_nx a4).trans (exB_nx a5))))⟩
theorem loop19 {Φ : Nat → Fn} (p13 : Φ 13 = F13) (p16 : Φ 16 = F16) (s : Bx) (x1 x3 x4 x6 x9 : Slot) (n4 : ∀ d, x4 ≠ .own d) : ∀ (ts : List Str) (x5 x7 x10 : Slot), (∀ x ∈ ts, x ∈ h.objs) →
    ∃ y5 y7 y10, frL (.nm 7) (exB Φ Cn t19) (nD ts) (T h x1 x3 x4 x5 x6 x7 x9 x10) s = .go .nx (T h x1 x3 x4 y5 x6 y7 x9 y10) s
  | [], x5, x7, x10, _ => ⟨x5, x7, x10, rfl⟩
  | t :: r, x5, x7, x10, ht => by
    obtain ⟨y5, y10, h1⟩ := step19 o p13 p16 (ht t List.mem_cons_self) s x1 x3 x4 x5 x6 x9 x10 n4
    obtain ⟨z5, z7, z10, h2⟩ := loop19 p13 p16 s x1 x3 x4 x6 x9 n4 r y5 (.dat (.str t)) y10 fun x hx => ht x (List.mem_cons_of_mem _ hx)
    refine ⟨z5, z7, z10, ?_⟩
    rw [← h2]
    show lft _ _ _ s = _
    rw [lft_eq]
    show SM.turn (exB Φ Cn t19 (T h x1 x3 x4 x5 x6 (.dat (.str t)) x9 x10)) _ s = _
    rw [turn_eq, h1]
    rfl
end
end K02M
end
section
open PySem Pd K02
theorem hand (s : Bx) : F18 [] s = .ok (.bool true) s := by kernel_rfl
end
section
/-! K02: the law, whole. -/
namespace K02M
open PySem PyProof.Rows Pd Pm K02
def f19 : Stas := (.cons (.asg 3 (.bin .Add (.slot 3) (.bi .list (.slot 4)))) .nil)
def tn1 : Sta := .asg 2 (.call 15 (.box 0 (.cons (.lit (.int 5)) .nil)))
def tn2 : Sta := .par [(8, false), (9, false)] (.cons (.call 17 (.cons (.slot 2) .nil)) (.cons (.call 14 (.cons (.slot 2) .nil)) .nil))
def tn3 : Sta := .asg 3 (.lst .nil)
def tn4 : Sta := .fr (.nm 4) (.ex (.slot 8)) f19
def tn5 : Sta := .own 5 (.lst (.cons (.slot 8) (.cons (.bi .tuple (.bi .sorted (.slot 3))) .nil)))
def tn6 : Sta := .asg 6 (.lst (.cons (.call 5 (.cons (.slot 2) .nil)) (.cons (.call 6 (.cons (.slot 2) .nil)) (.cons (.call 5 (.cons (.slot 9) .nil)) (.cons (.call 6 (.cons (.slot 9) .nil)) .nil)))))
def tn7 : Sta := .ite (.nt (.call 13 (.cons (.slot 6) (.cons (.bin .Mult (.slot 5) (.lit (.int 2))) .nil)))) (.cons (.ret (.lit (.bool false))) .nil) .nil
def tn8 : Sta := .fr (.nm 7) (.ex (.idx (.slot 2) (.lit (.int 0)))) t19
def b19 : Stas := .cons tn1 (.cons tn2 (.cons tn3 (.cons tn4 (.cons tn5 (.cons tn6 (.cons tn7 (.cons tn8 .nil)))))))
/-- the slots between two turns -/
def W (x1 x2 x3 x4 x5 x6 x7 x8 x9 x10 : Slot) : Pd.Env := [.box, x1, x2, x3, x4, x5, x6, x7, x8, x9, x10, .un, .un]
section
variable {h : Hp} (o : Ok h)
include o
theorem flat19 (Φ : Nat → Fn) (s : Bx) (x1 x5 x6 x7 x9 x10 : Slot) : ∀ (ls : List (List Str)) (acc : List Str) (x4 : Slot), (∀ d, x4 ≠ .own d) → acc.length + ls.flatten.length ≤ 1000 → ∃ y4 : Slot, (∀ d, y4 ≠ .own d) ∧
    frL (.nm 4) (exB Φ Cn f19) (ls.map tD) (T h x1 (.dat (.list (nD acc))) x4 x5 x6 x7 x9 x10) s = .go .nx (T h x1 (.dat (.list (nD (acc ++ ls.flatten)))) y4 x5 x6 x7 x9 x10) s
  | [], acc, x4, n4, _ => ⟨x4, n4, by rw [List.flatten_nil, List.append_nil]; rfl⟩
  | l :: r, acc, x4, n4, hl => by
    rw [List.flatten_cons, List.length_append] at hl
    obtain ⟨y4, n, hr⟩ := flat19 Φ s x1 x5 x6 x7 x9 x10 r (acc ++ l) (.dat (tD l)) (fun d e => by cases e) (by rw [List.length_append]; omega)
    refine ⟨y4, n, ?_⟩
    rw [List.flatten_cons, ← List.append_assoc, ← hr]
    have e1 : binD .Add (.list (nD acc)) (.list (nD l)) = some (.list (nD (acc ++ l))) := by
      rw [cat_ok (by rw [nD_len, nD_len]; omega), nD_app]
    have e2 : biD .list (tD l) = some (.list (nD l)) := rfl
    have e3 : exB Φ Cn f19 (T h x1 (.dat (.list (nD acc))) (.dat (tD l)) x5 x6 x7 x9 x10) s = .go .nx (T h x1 (.dat (.list (nD (acc ++ l)))) (.dat (tD l)) x5 x6 x7 x9 x10) s := by
      simp [f19, T, ev, evs, evas, evp, evo, evc, evAnd, evOr, evIt, exS, exB, ↓bind_eq, ↓lft_eq, ↓seq_eq, ↓turn_eq, ↓quiet_eq, pure_eq, go_eq, some_eq, none_eq, ↓run_eq, getSlot, isOwn, anyOwn, itOwn, ownAs, eoOwn, ↓tr_eq, truth, bindTg, Pd.bindAll, wipeE, ckLim, ckTup, startE, slotOf, freeze, srcSlot, atOwn, setPar, evPar, frM, frD, turnF, turnF2, turnK, keyOk, ckDic, lim_eq, itemsOf_sq, seqOf_sq, len_sq, tup_sq, idx_sq, at0, at1, at2, upF, e1, e2]
    show lft _ _ _ s = _
    rw [lft_eq]
    show SM.turn (exB Φ Cn f19 (T h x1 (.dat (.list (nD acc))) (.dat (tD l)) x5 x6 x7 x9 x10)) _ s = _
    rw [turn_eq, e3]
theorem gd_big : gd 8 (.list [lD h, tD (ss (laps h).flatten), lD h, tD (ss (laps h).flatten)]) := ⟨by simp, fun d hd => by
  have := laps_flat o
  have := ss_len (xs := (laps h).flatten)
  simp only [List.mem_cons, List.not_mem_nil, or_false] at hd
  rcases hd with rfl | rfl | rfl | rfl
  · exact gd_l o 4
  · exact gd_t 5 (by omega)
  · exact gd_l o 4
  · exact gd_t 5 (by omega)⟩
theorem rest19 {Φ : Nat → Fn} (p5 : Φ 5 = F5) (p6 : Φ 6 = F6) (p13 : Φ 13 = F13) (p14 : Φ 14 = F14) (p16 : Φ 16 = F16) (p17 : Φ 17 = F17) (s : Bx) (x1 x3 x4 x5 x6 x7 x8 x9 x10 : Slot) (n4 : ∀ d, x4 ≠ .own d) :
    ∃ y3 y4 y5 y6 y7 y8 y9 y10, (∀ d, y4 ≠ .own d) ∧ exB Φ Cn (.cons tn2 (.cons tn3 (.cons tn4 (.cons tn5 (.cons tn6 (.cons tn7 (.cons tn8 .nil))))))) (W x1 (.dat (hD true h)) x3 x4 x5 x6 x7 x8 x9 x10) s = .go .nx (W x1 (.dat (hD true h)) y3 y4 y5 y6 y7 y8 y9 y10) s := by
  have lf := laps_flat o
  have q17 := f17 o s
  have q14 := f14 o s
  have q5 := f5 o true s
  have q6 := f6 o true s
  have q5' := f5 o false s
  have q6' := f6 o false s
  have a2 : exS Φ Cn tn2 (W x1 (.dat (hD true h)) x3 x4 x5 x6 x7 x8 x9 x10) s = .go .nx (T h x1 x3 x4 x5 x6 x7 (.dat (hD false h)) x10) s := by
    simp [tn2, W, T, ev, evs, evas, evp, evo, evc, evAnd, evOr, evIt, exS, exB, ↓bind_eq, ↓lft_eq, ↓seq_eq, ↓turn_eq, ↓quiet_eq, pure_eq, go_eq, some_eq, none_eq, ↓run_eq, getSlot, isOwn, anyOwn, itOwn, ownAs, eoOwn, ↓tr_eq, truth, bindTg, Pd.bindAll, wipeE, ckLim, ckTup, startE, slotOf, freeze, srcSlot, atOwn, setPar, evPar, frM, frD, turnF, turnF2, turnK, keyOk, ckDic, lim_eq, itemsOf_sq, seqOf_sq, len_sq, tup_sq, idx_sq, at0, at1, at2, upF, p17, p14, q17, q14, lD]
  have a3 : exS Φ Cn tn3 (T h x1 x3 x4 x5 x6 x7 (.dat (hD false h)) x10) s = .go .nx (T h x1 (.dat (.list (nD []))) x4 x5 x6 x7 (.dat (hD false h)) x10) s := rfl
  obtain ⟨y4, m4, hr⟩ := flat19 o Φ s x1 x5 x6 x7 (.dat (hD false h)) x10 (laps h) [] x4 n4 (by rw [List.length_nil]; omega)
  have i4 : evIt Φ Cn (.ex (.slot 8)) (T h x1 (.dat (.list (nD []))) x4 x5 x6 x7 (.dat (hD false h)) x10) s = .ok ((laps h).map tD) s := rfl
  have a4 : exS Φ Cn tn4 (T h x1 (.dat (.list (nD []))) x4 x5 x6 x7 (.dat (hD false h)) x10) s = .go .nx (T h x1 (.dat (.list (nD (laps h).flatten))) y4 x5 x6 x7 (.dat (hD false h)) x10) s := (exS_fr rfl i4).trans hr
  have e5 : biD .sorted (.list (nD (laps h).flatten)) = some (.list (nD (ss (laps h).flatten))) := biS (b := false) (fun x hx => o.str x (laps_in o x hx)) (laps_nodup o)
  have e5' : biD .tuple (.list (nD (ss (laps h).flatten))) = some (tD (ss (laps h).flatten)) := rfl
  have a5 : exS Φ Cn tn5 (T h x1 (.dat (.list (nD (laps h).flatten))) y4 x5 x6 x7 (.dat (hD false h)) x10) s = .go .nx (T h x1 (.dat (.list (nD (laps h).flatten))) y4 (.own [lD h, tD (ss (laps h).flatten)]) x6 x7 (.dat (hD false h)) x10) s := by
    simp [tn5, T, ev, evs, evas, evp, evo, evc, evAnd, evOr, evIt, exS, exB, ↓bind_eq, ↓lft_eq, ↓seq_eq, ↓turn_eq, ↓quiet_eq, pure_eq, go_eq, some_eq, none_eq, ↓run_eq, getSlot, isOwn, anyOwn, itOwn, ownAs, eoOwn, ↓tr_eq, truth, bindTg, Pd.bindAll, wipeE, ckLim, ckTup, startE, slotOf, freeze, srcSlot, atOwn, setPar, evPar, frM, frD, turnF, turnF2, turnK, keyOk, ckDic, lim_eq, itemsOf_sq, seqOf_sq, len_sq, tup_sq, idx_sq, at0, at1, at2, upF, e5, e5']
  have a6 : exS Φ Cn tn6 (T h x1 (.dat (.list (nD (laps h).flatten))) y4 (.own [lD h, tD (ss (laps h).flatten)]) x6 x7 (.dat (hD false h)) x10) s = .go .nx (T h x1 (.dat (.list (nD (laps h).flatten))) y4 (.own [lD h, tD (ss (laps h).flatten)]) (.dat (.list [lD h, tD (ss (laps h).flatten), lD h, tD (ss (laps h).flatten)])) x7 (.dat (hD false h)) x10) s := by
    simp [tn6, T, ev, evs, evas, evp, evo, evc, evAnd, evOr, evIt, exS, exB, ↓bind_eq, ↓lft_eq, ↓seq_eq, ↓turn_eq, ↓quiet_eq, pure_eq, go_eq, some_eq, none_eq, ↓run_eq, getSlot, isOwn, anyOwn, itOwn, ownAs, eoOwn, ↓tr_eq, truth, bindTg, Pd.bindAll, wipeE, ckLim, ckTup, startE, slotOf, freeze, srcSlot, atOwn, setPar, evPar, frM, frD, turnF, turnF2, turnK, keyOk, ckDic, lim_eq, itemsOf_sq, seqOf_sq, len_sq, tup_sq, idx_sq, at0, at1, at2, upF, p5, p6, q5, q6, q5', q6', lD]
  have e7 : binD .Mult (.list [lD h, tD (ss (laps h).flatten)]) (.int 2) = some (.list [lD h, tD (ss (laps h).flatten), lD h, tD (ss (laps h).flatten)]) := by
    rfl
  have q13 := f13 (gd_big o) s
  have a7 : exS Φ Cn tn7 (T h x1 (.dat (.list (nD (laps h).flatten))) y4 (.own [lD h, tD (ss (laps h).flatten)]) (.dat (.list [lD h, tD (ss (laps h).flatten), lD h, tD (ss (laps h).flatten)])) x7 (.dat (hD false h)) x10) s = .go .nx (T h x1 (.dat (.list (nD (laps h).flatten))) y4 (.own [lD h, tD (ss (laps h).flatten)]) (.dat (.list [lD h, tD (ss (laps h).flatten), lD h, tD (ss (laps h).flatten)])) x7 (.dat (hD false h)) x10) s := by
    simp [tn7, T, ev, evs, evas, evp, evo, evc, evAnd, evOr, evIt, exS, exB, ↓bind_eq, ↓lft_eq, ↓seq_eq, ↓turn_eq, ↓quiet_eq, pure_eq, go_eq, some_eq, none_eq, ↓run_eq, getSlot, isOwn, anyOwn, itOwn, ownAs, eoOwn, ↓tr_eq, truth, bindTg, Pd.bindAll, wipeE, ckLim, ckTup, startE, slotOf, freeze, srcSlot, atOwn, setPar, evPar, frM, frD, turnF, turnF2, turnK, keyOk, ckDic, lim_eq, itemsOf_sq, seqOf_sq, len_sq, tup_sq, idx_sq, at0, at1, at2, upF, p13, e7, q13]
  obtain ⟨y5, y7, y10, h8⟩ := loop19 o p13 p16 s x1 (.dat (.list (nD (laps h).flatten))) y4 (.dat (.list [lD h, tD (ss (laps h).flatten), lD h, tD (ss (laps h).flatten)])) (.dat (hD false h)) m4 h.objs (.own [lD h, tD (ss (laps h).flatten)]) x7 x10 (fun x hx => hx)
  have i8 : evIt Φ Cn (.ex (.idx (.slot 2) (.lit (.int 0)))) (T h x1 (.dat (.list (nD (laps h).flatten))) y4 (.own [lD h, tD (ss (laps h).flatten)]) (.dat (.list [lD h, tD (ss (laps h).flatten), lD h, tD (ss (laps h).flatten)])) x7 (.dat (hD false h)) x10) s = .ok (nD h.objs) s := by
    simp [T, ev, evIt, ↓bind_eq, getSlot, pure_eq, some_eq, idx0, itemsOf_sq]
  have a8 : exS Φ Cn tn8 (T h x1 (.dat (.list (nD (laps h).flatten))) y4 (.own [lD h, tD (ss (laps h).flatten)]) (.dat (.list [lD h, tD (ss (laps h).flatten), lD h, tD (ss (laps h).flatten)])) x7 (.dat (hD false h)) x10) s = .go .nx (T h x1 (.dat (.list (nD (laps h).flatten))) y4 y5 (.dat (.list [lD h, tD (ss (laps h).flatten), lD h, tD (ss (laps h).flatten)])) y7 (.dat (hD false h)) y10) s := (exS_fr rfl i8).trans h8
  exact ⟨_, _, _, _, _, _, _, _, m4, (exB_nx a2).trans ((exB_nx a3).trans ((exB_nx a4).trans ((exB_nx a5).trans ((exB_nx a6).trans ((exB_nx a7).trans (exB_nx a8))))))⟩
end
theorem turn19 {Φ : Nat → Fn} (p5 : Φ 5 = F5) (p6 : Φ 6 = F6) (p13 : Φ 13 = F13) (p14 : Φ 14 = F14) (p15 : Φ 15 = F15) (p16 : Φ 16 = F16) (p17 : Φ 17 = F17) : ∀ (n : Nat) (i : Int) (K : Nat) (s : Bx) (x1 x2 x3 x4 x5 x6 x7 x8 x9 x10 : Slot), (∀ d, x4 ≠ .own d) → Gd K s → K + 31 * n ≤ 4000 →
    ∃ ρ s', frL (.nm 1) (exB Φ Cn b19) (rangeD i n) (W x1 x2 x3 x4 x5 x6 x7 x8 x9 x10) s = .go .nx ρ s'
  | 0, _, _, s, x1, x2, x3, x4, x5, x6, x7, x8, x9, x10, _, _, _ => ⟨_, _, rfl⟩
  | n + 1, i, K, s, x1, x2, x3, x4, x5, x6, x7, x8, x9, x10, n4, g, hK => by
    obtain ⟨h, s1, o, e1, g1⟩ := f15 g (by omega)
    have a1 : exS Φ Cn tn1 (W (.dat (.int i)) x2 x3 x4 x5 x6 x7 x8 x9 x10) s = .go .nx (W (.dat (.int i)) (.dat (hD true h)) x3 x4 x5 x6 x7 x8 x9 x10) s1 := by
      simp [tn1, W, ev, evs, evas, evp, evo, evc, evAnd, evOr, evIt, exS, exB, ↓bind_eq, ↓lft_eq, ↓seq_eq, ↓turn_eq, ↓quiet_eq, pure_eq, go_eq, some_eq, none_eq, ↓run_eq, getSlot, isOwn, anyOwn, itOwn, ownAs, eoOwn, ↓tr_eq, truth, bindTg, Pd.bindAll, wipeE, ckLim, ckTup, startE, slotOf, freeze, srcSlot, atOwn, setPar, evPar, frM, frD, turnF, turnF2, turnK, keyOk, ckDic, lim_eq, itemsOf_sq, seqOf_sq, len_sq, tup_sq, idx_sq, at0, at1, at2, upF, p15, e1]
    obtain ⟨y3, y4, y5, y6, y7, y8, y9, y10, m4, a2⟩ := rest19 o p5 p6 p13 p14 p16 p17 s1 (.dat (.int i)) x3 x4 x5 x6 x7 x8 x9 x10 n4
    obtain ⟨ρ, s', hr⟩ := turn19 p5 p6 p13 p14 p15 p16 p17 n (i + 1) (K + 31) s1 (.dat (.int i)) (.dat (hD true h)) y3 y4 y5 y6 y7 y8 y9 y10 m4 g1 (by omega)
    refine ⟨ρ, s', ?_⟩
    rw [← hr]
    show lft _ _ _ s = _
    rw [lft_eq]
    show SM.turn (exB Φ Cn b19 (W (.dat (.int i)) x2 x3 x4 x5 x6 x7 x8 x9 x10)) _ s = _
    rw [turn_eq]
    have a : exB Φ Cn b19 (W (.dat (.int i)) x2 x3 x4 x5 x6 x7 x8 x9 x10) s = .go .nx (W (.dat (.int i)) (.dat (hD true h)) y3 y4 y5 y6 y7 y8 y9 y10) s1 := (exB_nx a1).trans a2
    rw [a]
theorem right {s : Bx} (g : Gd 0 s) : ∃ s', F19 [.box] s = .ok (.bool true) s' := by
  have p5 : upF Fs18 19 badF 5 = F5 := rfl
  have p6 : upF Fs18 19 badF 6 = F6 := rfl
  have p13 : upF Fs18 19 badF 13 = F13 := rfl
  have p14 : upF Fs18 19 badF 14 = F14 := rfl
  have p15 : upF Fs18 19 badF 15 = F15 := rfl
  have p16 : upF Fs18 19 badF 16 = F16 := rfl
  have p17 : upF Fs18 19 badF 17 = F17 := rfl
  have eF : F19 = runFn (upF Fs18 19 badF) Cn 13 1 c19 := rfl
  rw [eF]
  clear eF
  generalize upF Fs18 19 badF = Φ at *
  have ec : c19 = .cons (.fr (.nm 1) (.rng1 (.lit (.int 8))) b19) (.cons (.ret (.lit (.bool true))) .nil) := rfl
  obtain ⟨ρ, s', hr⟩ := turn19 p5 p6 p13 p14 p15 p16 p17 8 0 0 s .un .un .un .un .un .un .un .un .un .un (fun d e => by cases e) g (by decide)
  have i1 : evIt Φ Cn (.rng1 (.lit (.int 8))) (W .un .un .un .un .un .un .un .un .un .un) s = .ok (rangeD 0 8) s := ev_rng1 (n := 8) rfl (by decide)
  have a1 : exS Φ Cn (.fr (.nm 1) (.rng1 (.lit (.int 8))) b19) (W .un .un .un .un .un .un .un .un .un .un) s = .go .nx ρ s' := (exS_fr rfl i1).trans hr
  have a2 : exS Φ Cn (.ret (.lit (.bool true))) ρ s' = .go (.ret (.bool true)) ρ s' := rfl
  rw [ec]
  exact ⟨s', run_ret rfl ((exB_nx a1).trans (exB_ret a2))⟩
def y20 : Ex := .comp (.bcall 19 1063702 (.slot 1) (.slot 2)) [2] (.nm 2) (.rng1 (.bi .len (.slot 1))) .no
theorem hF (ns : List Int) (hl : ns.length ≤ 63) (s : Bx) : ∃ s', F20 [.scr ns] s = .ok (.bool true) s' := by
  have p18 : upF Fs19 20 badF 18 = F18 := rfl
  have p12 : upF Fs19 20 badF 12 = F12 := rfl
  have p19 : upF Fs19 20 badF 19 = F19 := rfl
  have eF : F20 = runFn (upF Fs19 20 badF) Cn 3 1 c20 := rfl
  rw [eF]
  clear eF
  generalize upF Fs19 20 badF = Φ at *
  obtain ⟨zs, z3, hz⟩ := f12 ns hl s
  have h18 := hand s
  have e1 : evIt Φ Cn (.rng1 (.bi .len (.slot 1))) [.scr ns, .dat (.list (zs.map .int)), .un] s = .ok (rangeD 0 zs.length) s := by
    refine ev_rng1 ?_ (by omega)
    simp [ev, ↓bind_eq, getSlot, pure_eq, some_eq, biD]
  have e2 : rangeD 0 zs.length = (List.range zs.length).map fun k => .int (k : Int) := by
    have : ∀ (n k : Nat), rangeD (k : Int) n = (List.range' k n).map fun k => .int (k : Int) := fun n => by
      induction n with
      | zero => exact fun _ => rfl
      | succ n ih =>
        intro k
        have := ih (k + 1)
        rw [List.range'_succ, List.map_cons, ← this]
        rfl
    rw [List.range_eq_range']
    exact this zs.length 0
  rw [e2] at e1
  have e3 : ev Φ Cn y20 [.scr ns, .dat (.list (zs.map .int)), .un] s = .ok (.list ((List.range zs.length).map fun _ => .bool true)) s := by
    unfold y20
    refine comp_map e1 rfl (fun k hk => ?_) (by rw [List.length_range]; omega)
    obtain ⟨b, b1, b2⟩ := box_new (kz := 1063702) (zs := zs) (k := k) (List.mem_range.mp hk)
    obtain ⟨s', hs⟩ := right b2
    simp [ev, evs, evas, evp, evo, evc, evAnd, evOr, evIt, exS, exB, ↓bind_eq, ↓lft_eq, ↓seq_eq, ↓turn_eq, ↓quiet_eq, pure_eq, go_eq, some_eq, none_eq, ↓run_eq, getSlot, isOwn, anyOwn, itOwn, ownAs, eoOwn, ↓tr_eq, truth, bindTg, Pd.bindAll, wipeE, ckLim, ckTup, startE, slotOf, freeze, srcSlot, atOwn, setPar, evPar, frM, frD, turnF, turnF2, turnK, keyOk, ckDic, lim_eq, itemsOf_sq, seqOf_sq, len_sq, tup_sq, idx_sq, at0, at1, at2, upF, inBox, b1, p19, hs]
  have e4 := all_true (List.range zs.length)
  have ec : c20 = (.cons (.ite (.nt (.call 18 .nil)) (.cons (.ret (.lit (.bool false))) .nil) .nil)
    (.cons (.asg 1 (.call 12 (.scr 0 (.cons (.lit (.int 3)) .nil))))
    (.cons (.ret (.bi .all y20))
    .nil))) := rfl
  have a1 : exS Φ Cn (.ite (.nt (.call 18 .nil)) (.cons (.ret (.lit (.bool false))) .nil) .nil) [.scr ns, .un, .un] s = .go .nx [.scr ns, .un, .un] s := by
    simp [ev, evs, evas, evp, evo, evc, evAnd, evOr, evIt, exS, exB, ↓bind_eq, ↓lft_eq, ↓seq_eq, ↓turn_eq, ↓quiet_eq, pure_eq, go_eq, some_eq, none_eq, ↓run_eq, getSlot, isOwn, anyOwn, itOwn, ownAs, eoOwn, ↓tr_eq, truth, bindTg, Pd.bindAll, wipeE, ckLim, ckTup, startE, slotOf, freeze, srcSlot, atOwn, setPar, evPar, frM, frD, turnF, turnF2, turnK, keyOk, ckDic, lim_eq, itemsOf_sq, seqOf_sq, len_sq, tup_sq, idx_sq, at0, at1, at2, upF, p18, h18]
  have a2 : exS Φ Cn (.asg 1 (.call 12 (.scr 0 (.cons (.lit (.int 3)) .nil)))) [.scr ns, .un, .un] s = .go .nx [.scr ns, .dat (.list (zs.map .int)), .un] s := by
    simp [ev, evs, evas, evp, evo, evc, evAnd, evOr, evIt, exS, exB, ↓bind_eq, ↓lft_eq, ↓seq_eq, ↓turn_eq, ↓quiet_eq, pure_eq, go_eq, some_eq, none_eq, ↓run_eq, getSlot, isOwn, anyOwn, itOwn, ownAs, eoOwn, ↓tr_eq, truth, bindTg, Pd.bindAll, wipeE, ckLim, ckTup, startE, slotOf, freeze, srcSlot, atOwn, setPar, evPar, frM, frD, turnF, turnF2, turnK, keyOk, ckDic, lim_eq, itemsOf_sq, seqOf_sq, len_sq, tup_sq, idx_sq, at0, at1, at2, upF, p12, hz]
  have a3 : exS Φ Cn (.ret (.bi .all y20)) [.scr ns, .dat (.list (zs.map .int)), .un] s = .go (.ret (.bool true)) [.scr ns, .dat (.list (zs.map .int)), .un] s := ret_bi e3 e4
  rw [ec]
  exact ⟨s, run_ret rfl ((exB_nx a1).trans ((exB_nx a2).trans (exB_ret a3)))⟩
end K02M
end
set_option maxRecDepth 100000 in
theorem PySem.Challenge.cw_copylayouts_k02_what_is_reached_holds : PySem.Challenge.rw_copylayouts_k02_what_is_reached.Holds := by
  exact K02.holds K02M.hF

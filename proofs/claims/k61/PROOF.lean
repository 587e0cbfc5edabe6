import PyProof.Rows.All
import PySem.Str
import Wide.All
import OpenK.AllK
import Wide.FinOn
import KE.KStateDown
import HandS.Base
import HandS.Call
import HandS.List
import HandS.Comp
import HandS.Ends
import HandS.More
import HandS.Exc
import HandS.ExcOwn
import HandS.Words
import HandS.WordsExc
import HandS.Defaults
import HandS.Iter
import HandS.Text
import HandS.IsInst
import HandS.TupAny
import HandS.Deep
import HandS.Wide
import HandS.Head0
import HandS.Head1
import HandS.Head2
import HandS.HeadEnd
import HandS.HeadHook1
import HandS.HeadHook2
import HandS.Set
import HandS.SetFor
import HandS.SortOrd
import KE.SortData
import HandS.Strs
import HandS.SetKeys
import PySem.Challenge.RW_schemabridge_k61_definitions_replaced
set_option Elab.async false
set_option linter.all false
set_option maxRecDepth 100000
set_option autoImplicit false
section
set_option maxHeartbeats 4000000
/-! The small language: data, a store, expressions, statements, their evaluation. -/
namespace SB
open PySem

/-- data: trees; ref i: the i-th thing of the store; fn x: the def x; lis: a list that is never written -/
inductive D where
  | non | bl (b : Bool) | int (i : Int) | str (s : Str) | tup (l : List D) | ref (i : Nat) | fn (x : Str) | lis (l : List D)
  deriving Inhabited

mutual
def D.same : D → D → Bool
  | .non, .non => true
  | .bl a, .bl b => a == b
  | .int a, .int b => a == b
  | .str a, .str b => decide (a = b)
  | .tup a, .tup b => D.sames a b
  | .ref a, .ref b => a == b
  | .fn a, .fn b => decide (a = b)
  | .lis a, .lis b => D.sames a b
  | _, _ => false
def D.sames : List D → List D → Bool
  | [], [] => true
  | a :: l, b :: r => D.same a b && D.sames l r
  | _, _ => false
end
mutual
theorem D.same_iff : ∀ a b : D, D.same a b = true ↔ a = b
  | .non, b => by cases b <;> simp [D.same]
  | .bl _, b => by cases b <;> simp [D.same]
  | .int _, b => by cases b <;> simp [D.same]
  | .str _, b => by cases b <;> simp [D.same]
  | .tup l, b => by cases b <;> simp [D.same, D.sames_iff l]
  | .ref _, b => by cases b <;> simp [D.same]
  | .fn _, b => by cases b <;> simp [D.same]
  | .lis l, b => by cases b <;> simp [D.same, D.sames_iff l]
theorem D.sames_iff : ∀ a b : List D, D.sames a b = true ↔ a = b
  | [], b => by cases b <;> simp [D.sames]
  | x :: l, b => by cases b <;> simp [D.sames, D.same_iff x, D.sames_iff l]
end
instance : DecidableEq D := fun a b => decidable_of_iff _ (D.same_iff a b)

/-! no thing of the store is named, no def -/
mutual
def D.pure : D → Bool
  | .tup l => D.pures l
  | .ref _ => false
  | .fn _ => false
  | .lis _ => false
  | _ => true
def D.pures : List D → Bool
  | [] => true
  | a :: l => D.pure a && D.pures l
end
/-! only things below n are named -/
mutual
def D.upTo (n : Nat) : D → Bool
  | .tup l => D.upTos n l
  | .lis l => D.upTos n l
  | .ref i => decide (i < n)
  | _ => true
def D.upTos (n : Nat) : List D → Bool
  | [] => true
  | a :: l => D.upTo n a && D.upTos n l
end
mutual
def D.deep : D → Nat
  | .tup l => D.deeps l + 1
  | _ => 0
def D.deeps : List D → Nat
  | [] => 0
  | a :: l => max (D.deep a) (D.deeps l)
end
/-! Python's == of pure data -/
mutual
def peq : D → D → Bool
  | .non, .non => true
  | .bl a, .bl b => a == b
  | .bl a, .int j => (if a then 1 else 0) == j
  | .int i, .bl b => i == (if b then 1 else 0)
  | .int a, .int b => a == b
  | .str a, .str b => decide (a = b)
  | .tup a, .tup b => peqs a b
  | _, _ => false
def peqs : List D → List D → Bool
  | [], [] => true
  | a :: l, b :: r => peq a b && peqs l r
  | _, _ => false
end

abbrev DKey := Sum Int Str
/-- a thing: a list; a dict with ints and texts for keys (lk: it is being walked, not to be written) -/
inductive O where
  | lst (l : List D)
  | dct (lk : Bool) (l : List (DKey × D))
  deriving Inhabited, DecidableEq
def O.up (n : Nat) : O → Bool
  | .lst l => D.upTos n l
  | .dct _ l => D.upTos n (l.map (·.2))
abbrev Sto := List O
abbrev Env := List (Option D)

inductive R (α : Type) where
  | ok (a : α) (s : Sto)
  | exc (c : Str) (fs : List (Str × D)) (s : Sto)
  | err
/-- a mark that keeps simp out of what it marks -/
structure Tag {β : Type} (b : β) : Type where
  mk ::
def R.bind {α β : Type} (r : R α) (f : α → Sto → R β) (_ : Tag f := .mk) : R β := match r with
  | .ok a s => f a s
  | .exc c fs s => .exc c fs s
  | .err => .err

/-- nothing may be raised -/
def R.nox {α : Type} : R α → R α
  | .ok a s => .ok a s
  | _ => .err

inductive Bop | add | sub | mul | fdiv | mod | pow
  deriving DecidableEq
inductive Cop | eq | ne | lt | le | gt | ge | is | isnot | in_ | notin
  deriving DecidableEq
/-- built-in functions -/
inductive Bn | len | abs | min | max | ord | tuple | list | int_
  deriving DecidableEq
/-- methods of built-in types -/
inductive Mn | append | join
  deriving DecidableEq
inductive Ty | int | str | tuple | bool | list
  deriving DecidableEq

mutual
inductive Ex (F : Type) where
  | non | bl (b : Bool) | int (i : Int) | str (s : Str)
  | var (i : Nat)
  | con (x : Str) (d : D)
  | bin (o : Bop) (a b : Ex F)
  | neg (a : Ex F)
  | cmp (o : Cop) (a b : Ex F)
  | cm2 (o p : Cop) (a b c : Ex F)
  | cm3 (o p q : Cop) (a b c d : Ex F)
  | and (a b : Ex F)
  | or (a b : Ex F)
  | not (a : Ex F)
  | ite (c a b : Ex F)
  | tup (es : Exs F)
  | lst (es : Exs F)
  | idx (a i : Ex F)
  | slc (a : Ex F) (lo hi : OEx F)
  | call (f : F) (es : Exs F)
  | blt (f : Bn) (es : Exs F)
  | met (m : Mn) (o e : Ex F)
  | sset (e : Ex F)
  | dnew
  | isi (a : Ex F) (t : Ty)
  | lc (tg : List Nat) (one : Bool) (e : Ex F) (it : It F) (c : OEx F)
inductive Exs (F : Type) where
  | nil | cons (e : Ex F) (es : Exs F)
inductive OEx (F : Type) where
  | none | some (e : Ex F)
inductive It (F : Type) where
  | ex (e : Ex F)
  | rng1 (a : Ex F)
  | rng2 (a b : Ex F)
end

mutual
inductive Sx (F : Type) where
  | set (i : Nat) (e : Ex F)
  | setT (ts : List Nat) (e : Ex F)
  | setI (o i e : Ex F)
  | aug (i : Nat) (e : Ex F)
  | expr (e : Ex F)
  | ret (e : Ex F)
  | retN
  | iff (c : Ex F) (a b : Sxs F)
  | for_ (tg : List Nat) (one : Bool) (it : It F) (b : Sxs F)
  | forK (i v : Nat) (b : Sxs F)
  | whl (c : Ex F) (b : Sxs F)
  | brk | cnt | pas
inductive Sxs (F : Type) where
  | nil | cons (s : Sx F) (r : Sxs F)
end

/-! ### operations -/
def lim : Nat := 16777216
def alloc (o : O) (s : Sto) : R D := .ok (.ref s.length) (s ++ [o])
def lstAt (s : Sto) (i : Nat) : Option (List D) := match s[i]? with
  | some (.lst l) => some l
  | _ => none
def dctAt (s : Sto) (i : Nat) : Option (List (DKey × D)) := match s[i]? with
  | some (.dct _ l) => some l
  | _ => none
def keyOf : D → Option DKey
  | .int i => some (.inl i)
  | .str z => some (.inr z)
  | _ => none
def keyD : DKey → D
  | .inl i => .int i
  | .inr z => .str z
def valD (l : List (DKey × D)) (k : DKey) : Option D := (l.find? fun p => decide (p.1 = k)).map (·.2)
def putD (l : List (DKey × D)) (k : DKey) (d : D) : List (DKey × D) :=
  if (l.any fun p => decide (p.1 = k)) = true then l.map (fun p => if p.1 = k then (p.1, d) else p) else l ++ [(k, d)]
def when {α : Type} (c : Bool) (r : R α) : R α := match c with
  | true => r
  | false => .err
def smallI (i : Int) : Bool := decide (-(2 ^ 64) < i ∧ i < 2 ^ 64)
def binOp (o : Bop) (x y : D) (s : Sto) : R D := match o with
  | .add => (match x, y with
    | .int i, .int j => .ok (.int (i + j)) s
    | .str a, .str b => when (decide (a.length + b.length ≤ lim)) (.ok (.str (a ++ b)) s)
    | .tup a, .tup b => when (decide (a.length + b.length ≤ lim)) (.ok (.tup (a ++ b)) s)
    | .ref i, .ref j => (match lstAt s i, lstAt s j with
      | some a, some b => when (decide (a.length + b.length ≤ lim)) (alloc (.lst (a ++ b)) s)
      | _, _ => .err)
    | _, _ => .err)
  | .sub => (match x, y with
    | .int i, .int j => .ok (.int (i - j)) s
    | _, _ => .err)
  | .mul => (match x, y with
    | .int i, .int j => when (smallI i || smallI j) (.ok (.int (i * j)) s)
    | .ref i, .int k => (match lstAt s i with
      | some a => when (decide (a.length * k.toNat ≤ lim ∧ -(2 ^ 62) < k ∧ k < 2 ^ 62)) (alloc (.lst (List.replicate k.toNat a).flatten) s)
      | _ => .err)
    | _, _ => .err)
  | .fdiv => (match x, y with
    | .int i, .int j => when (decide (0 < j ∧ j < 1073741824)) (.ok (.int (i / j)) s)
    | _, _ => .err)
  | .mod => (match x, y with
    | .int i, .int j => when (decide (0 < j)) (.ok (.int (i % j)) s)
    | _, _ => .err)
  | .pow => (match x, y with
    | .int i, .int j => when (decide (0 ≤ j ∧ j ≤ 1000000) && smallI i) (.ok (.int (i ^ j.toNat)) s)
    | _, _ => .err)
def lsAt (x : D) (s : Sto) : Option (List D) := match x with
  | .ref p => lstAt s p
  | _ => none
def pyEq (x y : D) (s : Sto) (f : Bool → D) : R D := match lsAt x s, lsAt y s with
  | some a, some b => when (D.pures a && D.pures b && decide (min (D.deeps a) (D.deeps b) ≤ 80)) (.ok (f (peqs a b)) s)
  | _, _ => when (x.pure && y.pure && decide (min x.deep y.deep ≤ 90)) (.ok (f (peq x y)) s)
def isIn (x y : D) (s : Sto) : Option Bool := match y with
  | .tup l => if x.pure && D.pures l && decide (x.deep ≤ 60) then some (l.any fun z => peq z x) else none
  | .ref i => (match lstAt s i with
    | some l => if x.pure && D.pures l && decide (x.deep ≤ 60) then some (l.any fun z => peq z x) else none
    | none => none)
  | _ => none
def hasD (x y : D) (s : Sto) : Option Bool := match y with
  | .ref i => (match dctAt s i, keyOf x with
    | some l, some k => some (valD l k).isSome
    | _, _ => none)
  | _ => none
def cmpOp (o : Cop) (x y : D) (s : Sto) : R D := match o with
  | .eq => pyEq x y s .bl
  | .ne => pyEq x y s fun b => .bl (!b)
  | .lt => (match x, y with
    | .int i, .int j => .ok (.bl (decide (i < j))) s
    | _, _ => .err)
  | .le => (match x, y with
    | .int i, .int j => .ok (.bl (decide (i ≤ j))) s
    | .str a, .str b => .ok (.bl (decide (a.cps.toList ≤ b.cps.toList))) s
    | _, _ => .err)
  | .gt => (match x, y with
    | .int i, .int j => .ok (.bl (decide (j < i))) s
    | _, _ => .err)
  | .ge => (match x, y with
    | .int i, .int j => .ok (.bl (decide (j ≤ i))) s
    | _, _ => .err)
  | .is => (match y with
    | .non => .ok (.bl (decide (x = .non))) s
    | .bl c => (match x with
      | .bl b => .ok (.bl (b == c)) s
      | _ => .err)
    | _ => .err)
  | .isnot => (match y with
    | .non => .ok (.bl (!decide (x = .non))) s
    | _ => .err)
  | .in_ => (match isIn x y s with
    | some b => .ok (.bl b) s
    | none => (match hasD x y s with
      | some b => .ok (.bl b) s
      | none => .err))
  | .notin => (match isIn x y s with
    | some b => .ok (.bl (!b)) s
    | none => (match hasD x y s with
      | some b => .ok (.bl (!b)) s
      | none => .err))
/-- an index from the left or the right -/
def ixN (z : Nat) (k : Int) : Option Nat := if 0 ≤ k then (if k < z then some k.toNat else none) else (if -(z : Int) ≤ k then some (k + z).toNat else none)
def atI {α : Type} (l : List α) (i : Int) : Option α := match ixN l.length i with
  | some j => l[j]?
  | none => none
def dgetOp (x y : D) (s : Sto) : R D := match x with
  | .ref p => (match dctAt s p, keyOf y with
    | some l, some k => (match valD l k with
      | some d => .ok d s
      | none => .err)
    | _, _ => .err)
  | _ => .err
def sqOp (x y : D) (s : Sto) : R D := match x, y with
  | .tup l, .int i => (match atI l i with
    | some d => .ok d s
    | none => .err)
  | .lis l, .int i => (match atI l i with
    | some d => .ok d s
    | none => .err)
  | .ref p, .int i => (match lstAt s p with
    | some l => (match atI l i with
      | some d => .ok d s
      | none => .err)
    | none => .err)
  | .str z, .int i => when (decide (z.length ≤ lim)) (match atI z.cps.toList i with
    | some c => .ok (.str ⟨#[c]⟩) s
    | none => .err)
  | _, _ => .err
def isDct (x : D) (s : Sto) : Bool := match x with
  | .ref p => (dctAt s p).isSome
  | _ => false
def idxOp (x y : D) (s : Sto) : R D := match isDct x s with
  | true => dgetOp x y s
  | false => sqOp x y s
def sIx (z e : Nat) : Option Int → Nat
  | none => e
  | some k => if k < 0 then (k + z).toNat else min k.toNat z
def cutL {α : Type} (l : List α) (lo hi : Option Int) : List α := (l.drop (sIx l.length 0 lo)).take (sIx l.length l.length hi - sIx l.length 0 lo)
def slcOp (x : D) (lo hi : Option Int) (s : Sto) : R D := match x with
  | .tup l => .ok (.tup (cutL l lo hi)) s
  | .ref p => (match lstAt s p with
    | some l => alloc (.lst (cutL l lo hi)) s
    | none => .err)
  | _ => .err
def truth (x : D) (s : Sto) : Option Bool := match x with
  | .non => some false
  | .bl b => some b
  | .int i => some (i != 0)
  | .str y => if decide (y.length ≤ lim) then some ((y.length : Int) != 0) else none
  | .tup l => some (!l.isEmpty)
  | .ref p => (match lstAt s p with
    | some l => some (!l.isEmpty)
    | none => none)
  | .fn _ => none
  | .lis _ => none
def truR (x : D) (s : Sto) : R Bool := match truth x s with
  | some k => .ok k s
  | none => .err
def isTy : Ty → D → Option Bool
  | .int, .int _ => some true
  | .int, .bl _ => some true
  | .bool, .bl _ => some true
  | .str, .str _ => some true
  | .tuple, .tup _ => some true
  | .list, .ref _ => none
  | _, .ref _ => none
  | _, .fn _ => none
  | _, .lis _ => none
  | _, _ => some false
def allStr : List D → Option (List Str)
  | [] => some []
  | .str z :: l => (match allStr l with
    | some r => some (z :: r)
    | none => none)
  | _ :: _ => none
def bltOp (f : Bn) (ds : List D) (s : Sto) : R D := match f, ds with
  | .len, [.tup l] => .ok (.int l.length) s
  | .len, [.lis l] => .ok (.int l.length) s
  | .len, [.str z] => when (decide (z.length ≤ lim)) (.ok (.int z.length) s)
  | .len, [.ref p] => (match lstAt s p with
    | some l => .ok (.int l.length) s
    | none => (match dctAt s p with
      | some l => .ok (.int l.length) s
      | none => .err))
  | .abs, [.int i] => .ok (.int (if i < 0 then -i else i)) s
  | .min, [.int i, .int j] => .ok (.int (if j < i then j else i)) s
  | .max, [.int i, .int j] => .ok (.int (if j > i then j else i)) s
  | .ord, [.str z] => when (decide (z.length = 1)) (.ok (.int (z.cps.getD 0 0 : Nat)) s)
  | .tuple, [.tup l] => .ok (.tup l) s
  | .tuple, [.ref p] => (match lstAt s p with
    | some l => .ok (.tup l) s
    | none => .err)
  | .list, [.tup l] => alloc (.lst l) s
  | .list, [.ref p] => (match lstAt s p with
    | some l => alloc (.lst l) s
    | none => .err)
  | .int_, [.int i] => .ok (.int i) s
  | .int_, [.bl b] => .ok (.int (if b then 1 else 0)) s
  | _, _ => .err
/-- may the method be asked of it? -/
def recvOk (m : Mn) (o : D) (s : Sto) : Bool := match m, o with
  | .append, .ref p => (lstAt s p).isSome
  | .join, .str _ => true
  | _, _ => false
/-- put in order, each once -/
def insI (k : Int) : List Int → List Int
  | [] => [k]
  | a :: l => if k < a then k :: a :: l else if k = a then a :: l else a :: insI k l
def insS (k : Str) : List Str → List Str
  | [] => [k]
  | a :: l => if k.cps.toList < a.cps.toList then k :: a :: l else if k = a then a :: l else a :: insS k l
def allInt : List D → Option (List Int)
  | [] => some []
  | .int z :: l => (match allInt l with
    | some r => some (z :: r)
    | none => none)
  | _ :: _ => none
def ssetOp (d : D) (s : Sto) : R D := match d with
  | .ref p => (match lstAt s p with
    | some l => when (decide (l.length ≤ 60)) (match allStr l with
      | some r => alloc (.lst ((r.foldr insS []).map D.str)) s
      | none => .err)
    | none => .err)
  | _ => .err
def metOp (m : Mn) (o x : D) (s : Sto) : R D := match m with
  | .append => (match o with
    | .ref p => (match s[p]? with
      | some (.lst l) => when (decide (l.length < lim)) (.ok .non (s.set p (.lst (l ++ [x]))))
      | _ => .err)
    | _ => .err)
  | .join => (match o, x with
    | .str z, .ref p => (match lstAt s p with
      | some l => (match allStr l with
        | some r => when (decide ((r.map fun y => y.length).sum + r.length * z.length ≤ lim)) (.ok (.str (Str.join z r)) s)
        | none => .err)
      | none => .err)
    | _, _ => .err)

/-! ### evaluation -/
/-- bind a target: one name, or as many names as the tuple has items -/
def setMany : List Nat → List D → Env → Option Env
  | [], [], env => some env
  | i :: is, d :: ds, env => setMany is ds (env.set i (some d))
  | _, _, _ => none
def bindT (tg : List Nat) (one : Bool) (d : D) (env : Env) : Option Env := match one, tg, d with
  | true, [i], d => some (env.set i (some d))
  | false, is, .tup l => setMany is l env
  | _, _, _ => none
/-- items that are walked; the thing that must stay as it is -/
abbrev Items := List D × Option (Nat × List D)
def watch (w : Option (Nat × List D)) (s : Sto) : Bool := match w with
  | none => true
  | some (p, l) => decide (lstAt s p = some l)
def itemsOf (d : D) (s : Sto) : R Items := match d with
  | .tup l => .ok (l, none) s
  | .ref p => (match lstAt s p with
    | some l => .ok (l, some (p, l)) s
    | none => .err)
  | .str z => .ok (z.cps.toList.map fun c => .str ⟨#[c]⟩, none) s
  | _ => .err
def rangeD (lo : Int) : Nat → List D
  | 0 => []
  | n + 1 => .int lo :: rangeD (lo + 1) n
def midI (i : Int) : Bool := decide (-(2 ^ 62) ≤ i ∧ i < 2 ^ 62)
def rngOf (lo hi : D) (s : Sto) : R Items := match lo, hi with
  | .int i, .int j => when (midI i && midI j) (.ok (rangeD i (j - i).toNat, none) s)
  | _, _ => .err
def wipe (env : Env) : List Nat → Env
  | [] => env
  | v :: vs => (wipe env vs).set v none
/-- a comprehension's turns -/
def lcL (w : Option (Nat × List D)) (bnd : D → Option Env) (tst : Env → Sto → R Bool) (elt : Env → Sto → R D) : List D → Sto → List D → R (List D)
  | [], s, acc => when (watch w s) (.ok acc s)
  | x :: xs, s, acc => when (watch w s) (match bnd x with
    | some env => (tst env s).nox.bind fun b s => match b with
      | true => (elt env s).nox.bind fun y s => lcL w bnd tst elt xs s (acc ++ [y])
      | false => lcL w bnd tst elt xs s acc
    | none => .err)

section
variable {F : Type} (C : F → List D → Sto → R D)
mutual
def evE : Ex F → Env → Sto → R D
  | .non, _, s => .ok .non s
  | .bl b, _, s => .ok (.bl b) s
  | .int i, _, s => .ok (.int i) s
  | .str z, _, s => .ok (.str z) s
  | .var i, env, s => (match env[i]? with
    | some (some d) => .ok d s
    | _ => .err)
  | .con _ d, _, s => .ok d s
  | .bin o a b, env, s => (evE a env s).bind fun x s => (evE b env s).bind fun y s => binOp o x y s
  | .neg a, env, s => (evE a env s).bind fun x s => match x with
    | .int i => .ok (.int (-i)) s
    | _ => .err
  | .cmp o a b, env, s => (evE a env s).bind fun x s => (evE b env s).bind fun y s => cmpOp o x y s
  | .cm2 o p a b c, env, s => (evE a env s).bind fun x s => (evE b env s).bind fun y s => (cmpOp o x y s).bind fun r s => match r with
    | .bl true => (evE c env s).bind fun z s => cmpOp p y z s
    | .bl false => .ok (.bl false) s
    | _ => .err
  | .cm3 o p q a b c d, env, s => (evE a env s).bind fun x s => (evE b env s).bind fun y s => (cmpOp o x y s).bind fun r s => match r with
    | .bl true => (evE c env s).bind fun z s => (cmpOp p y z s).bind fun r s => match r with
      | .bl true => (evE d env s).bind fun u s => cmpOp q z u s
      | .bl false => .ok (.bl false) s
      | _ => .err
    | .bl false => .ok (.bl false) s
    | _ => .err
  | .and a b, env, s => (evE a env s).bind fun x s => match x with
    | .bl true => evE b env s
    | .bl false => .ok (.bl false) s
    | _ => .err
  | .or a b, env, s => (evE a env s).bind fun x s => match x with
    | .bl true => .ok (.bl true) s
    | .bl false => evE b env s
    | _ => .err
  | .not a, env, s => (evE a env s).bind fun x s => match x with
    | .bl b => .ok (.bl (!b)) s
    | _ => .err
  | .ite c a b, env, s => (evT c env s).bind fun k s => match k with
    | true => evE a env s
    | false => evE b env s
  | .tup es, env, s => (evEs es env s).bind fun ds s => when (decide (ds.length ≤ lim)) (.ok (.tup ds) s)
  | .lst es, env, s => (evEs es env s).bind fun ds s => when (decide (ds.length ≤ lim)) (alloc (.lst ds) s)
  | .idx a i, env, s => (evE a env s).bind fun x s => (evE i env s).bind fun y s => idxOp x y s
  | .slc a lo hi, env, s => (evE a env s).bind fun x s => (evO lo env s).bind fun l s => (evO hi env s).bind fun h s => slcOp x l h s
  | .call f es, env, s => (evEs es env s).bind fun ds s => C f ds s
  | .blt f es, env, s => (evEs es env s).bind fun ds s => bltOp f ds s
  | .met m o e, env, s => (evE o env s).bind fun x s => when (recvOk m x s) ((evE e env s).bind fun y s => metOp m x y s)
  | .sset e, env, s => (evE e env s).bind fun x s => ssetOp x s
  | .dnew, _, s => alloc (.dct false []) s
  | .isi a t, env, s => (evE a env s).bind fun x s => match isTy t x with
    | some b => .ok (.bl b) s
    | none => .err
  | .lc tg one e it c, env, s => (evIt it env s).bind fun its s =>
      (lcL its.2 (fun d => bindT tg one d (wipe env tg)) (fun env s => evC c env s) (fun env s => evE e env s) its.1 s []).bind fun l s => when (decide (l.length ≤ lim)) (alloc (.lst l) s)
/-- an expression as a test -/
def evT : Ex F → Env → Sto → R Bool
  | .and a b, env, s => (evT a env s).bind fun k s => match k with
    | true => evT b env s
    | false => .ok false s
  | .or a b, env, s => (evT a env s).bind fun k s => match k with
    | true => .ok true s
    | false => evT b env s
  | .not a, env, s => (evT a env s).bind fun k s => .ok (!k) s
  | .cmp o a b, env, s => (evE a env s).bind fun x s => (evE b env s).bind fun y s => (cmpOp o x y s).bind fun r s => match r with
    | .bl k => .ok k s
    | _ => .err
  | .cm2 o p a b c, env, s => (evE a env s).bind fun x s => (evE b env s).bind fun y s => (cmpOp o x y s).bind fun r s => match r with
    | .bl true => (evE c env s).bind fun z s => (cmpOp p y z s).bind fun r s => match r with
      | .bl k => .ok k s
      | _ => .err
    | .bl false => .ok false s
    | _ => .err
  | .isi a t, env, s => (evE a env s).bind fun x s => match isTy t x with
    | some b => .ok b s
    | none => .err
  | .call f es, env, s => (evEs es env s).bind fun ds s => (C f ds s).bind truR
  | .var i, env, s => (match env[i]? with
    | some (some x) => truR x s
    | _ => .err)
  | .idx a i, env, s => (evE a env s).bind fun x s => (evE i env s).bind fun y s => (idxOp x y s).bind truR
  | _, _, _ => .err
def evEs : Exs F → Env → Sto → R (List D)
  | .nil, _, s => .ok [] s
  | .cons e es, env, s => (evE e env s).bind fun d s => (evEs es env s).bind fun ds s => .ok (d :: ds) s
def evC : OEx F → Env → Sto → R Bool
  | .none, _, s => .ok true s
  | .some t, env, s => evT t env s
def evO : OEx F → Env → Sto → R (Option Int)
  | .none, _, s => .ok none s
  | .some e, env, s => (evE e env s).bind fun d s => match d with
    | .int i => .ok (some i) s
    | _ => .err
def evIt : It F → Env → Sto → R Items
  | .ex e, env, s => (evE e env s).bind fun d s => itemsOf d s
  | .rng1 a, env, s => (evE a env s).bind fun x s => rngOf (.int 0) x s
  | .rng2 a b, env, s => (evE a env s).bind fun x s => (evE b env s).bind fun y s => rngOf x y s
end

inductive Fl where
  | nx (env : Env) | ret (d : D) | bk (env : Env) | ct (env : Env)
def forL (w : Option (Nat × List D)) (bnd : D → Env → Option Env) (body : Env → Sto → R Fl) : List D → Env → Sto → R Fl
  | [], env, s => when (watch w s) (.ok (.nx env) s)
  | x :: xs, env, s => when (watch w s) (match bnd x env with
    | some env => (body env s).bind fun f s => match f with
      | .nx env => forL w bnd body xs env s
      | .ct env => forL w bnd body xs env s
      | .bk env => .ok (.nx env) s
      | .ret d => .ok (.ret d) s
    | none => .err)
def whlL (tst : Env → Sto → R Bool) (body : Env → Sto → R Fl) : Nat → Env → Sto → R Fl
  | 0, _, _ => .err
  | n + 1, env, s => (tst env s).bind fun b s => match b with
    | false => .ok (.nx env) s
    | true => (body env s).bind fun f s => match f with
      | .nx env => whlL tst body n env s
      | .ct env => whlL tst body n env s
      | .bk env => .ok (.nx env) s
      | .ret d => .ok (.ret d) s
def fuel : Nat := 1000000
def setItem (o i v : D) (s : Sto) : Option Sto := match o, i with
  | .ref p, .int k => (match s[p]? with
    | some (.lst l) => (match ixN l.length k with
      | some j => some (s.set p (.lst (l.set j v)))
      | none => none)
    | _ => none)
  | _, _ => none
def setDct (o i v : D) (s : Sto) : Option Sto := match o with
  | .ref p => (match s[p]?, keyOf i with
    | some (.dct false l), some k => if l.length < lim then some (s.set p (.dct false (putD l k v))) else none
    | _, _ => none)
  | _ => none
/-- a walk's end: the dict may be written again -/
def unlock (p : Nat) (l : List (DKey × D)) : R Fl → R Fl
  | .ok f s => when (decide (s[p]? = some (.dct true l))) (.ok f (s.set p (.dct false l)))
  | _ => .err
mutual
def evS : Sx F → Env → Sto → R Fl
  | .set i e, env, s => (evE C e env s).bind fun d s => .ok (.nx (env.set i (some d))) s
  | .setT ts e, env, s => (evE C e env s).bind fun d s => match bindT ts false d env with
    | some env => .ok (.nx env) s
    | none => .err
  | .setI o i e, env, s => (evE C e env s).bind fun v s => (evE C o env s).bind fun o s => (evE C i env s).bind fun i s => match setItem o i v s with
    | some s => .ok (.nx env) s
    | none => (match setDct o i v s with
      | some s => .ok (.nx env) s
      | none => .err)
  | .aug i e, env, s => (match env[i]? with
    | some (some x) => (evE C e env s).bind fun y s => match x, y with
      | .int a, .int b => .ok (.nx (env.set i (some (.int (a + b))))) s
      | _, _ => .err
    | _ => .err)
  | .expr e, env, s => (evE C e env s).bind fun _ s => .ok (.nx env) s
  | .ret e, env, s => (evE C e env s).bind fun d s => .ok (.ret d) s
  | .retN, _, s => .ok (.ret .non) s
  | .iff c a b, env, s => (evT C c env s).bind fun k s => match k with
    | true => evSs a env s
    | false => evSs b env s
  | .for_ tg one it b, env, s => (evIt C it env s).bind fun its s => forL its.2 (bindT tg one) (fun env s => evSs b env s) its.1 env s
  | .forK i v b, env, s => (match env[v]? with
    | some (some (.ref p)) => (match s[p]? with
      | some (.dct false l) => unlock p l (forL none (bindT [i] true) (fun env s => evSs b env s) (l.map fun q => keyD q.1) env (s.set p (.dct true l)))
      | _ => .err)
    | _ => .err)
  | .whl c b, env, s => whlL (fun env s => evT C c env s) (fun env s => evSs b env s) fuel env s
  | .brk, env, s => .ok (.bk env) s
  | .cnt, env, s => .ok (.ct env) s
  | .pas, env, s => .ok (.nx env) s
def evSs : Sxs F → Env → Sto → R Fl
  | .nil, env, s => .ok (.nx env) s
  | .cons a r, env, s => (evS a env s).bind fun f s => match f with
    | .nx env => evSs r env s
    | f => .ok f s
end
end

/-! ### functions -/
/-- what is forgotten when a function has returned -/
inductive Gc | raw | pur | mut | new
  deriving DecidableEq
structure Fn (F : Type) where
  ps : Nat
  n : Nat
  gc : Gc
  body : Sxs F
def keptOk (n : Nat) : Sto → Sto → Bool
  | [], [] => true
  | a :: l, b :: r => (decide (a = b) || O.up n b) && keptOk n l r
  | _, _ => false
def gcR (g : Gc) (s0 : Sto) (d : D) (s : Sto) : R D := match g with
  | .raw => .ok d s
  | .pur => when (decide (s.take s0.length = s0) && d.upTo s0.length) (.ok d s0)
  | .mut => when (keptOk s0.length s0 (s.take s0.length) && d.upTo s0.length) (.ok d (s.take s0.length))
  | .new => (match d with
    | .ref r => (match s[r]? with
      | some o => when (decide (s.take s0.length = s0) && decide (s0.length ≤ r) && o.up s0.length) (.ok (.ref s0.length) (s0 ++ [o]))
      | none => .err)
    | _ => .err)
def fsUp (n : Nat) : List (Str × D) → Bool
  | [] => true
  | a :: l => D.upTo n a.2 && fsUp n l
def gcX (g : Gc) (s0 : Sto) (c : Str) (fs : List (Str × D)) (s : Sto) : R D := match g with
  | .raw => .exc c fs s
  | .mut => when (keptOk s0.length s0 (s.take s0.length) && fsUp s0.length fs) (.exc c fs (s.take s0.length))
  | _ => when (decide (s.take s0.length = s0) && fsUp s0.length fs) (.exc c fs s0)
def outOf (g : Gc) (s0 : Sto) : R Fl → R D
  | .ok (.nx _) s => gcR g s0 .non s
  | .ok (.ret d) s => gcR g s0 d s
  | .exc c fs s => gcX g s0 c fs s
  | _ => .err
def start (fn : Nat) (ds : List D) : Env := ds.map some ++ List.replicate (fn - ds.length) none
def callF {F : Type} (T : F → Fn F) : Nat → F → List D → Sto → R D
  | 0, _, _, _ => .err
  | k + 1, f, ds, s => when (decide (ds.length = (T f).ps)) (outOf (T f).gc s (evSs (callF T k) (T f).body (start (T f).n ds) s))
end SB
end

section
set_option maxHeartbeats 2000000
namespace SB
open PySem PySem.Spec PyProof.Rows L2

/-- a list that is never written -/
def FzL (K : PySem.W.Frag) (H : Hp) (a : Addr) (xs : List V) : Prop :=
  (∃ o, H a = some (.frz o (.lst xs))) ∨
    ∃ (o : Obj) (its : Array Value) (n : Nat), K.lookup a = some o ∧ o.cls = .type "list" ∧ o.dict = none ∧ o.data = .seq its n ∧ its.size ≤ sizeLine ∧ Vals xs its.toList
theorem FzL.sq {K : PySem.W.Frag} {H : Hp} {a : Addr} {xs : List V} (h : FzL K H a xs) : SqL K H a xs := h.elim (fun ⟨o, e⟩ => .inl (.inr ⟨o, e⟩)) .inr
mutual
/-- v is the data d -/
inductive RV (K : PySem.W.Frag) (m : List Addr) (H : Hp) : D → V → Prop where
  | non : RV K m H .non .non
  | bl (b : Bool) : RV K m H (.bl b) (.bl b)
  | int (i : Int) : RV K m H (.int i) (.int i)
  | str {z : Str} : PyData.strOk z = true → RV K m H (.str z) (.str z)
  | tup {l : List D} {a : Addr} {xs : List V} : SqT K H a xs → RVs K m H l xs → RV K m H (.tup l) (.ref a)
  | ref {i : Nat} {a : Addr} : m[i]? = some a → RV K m H (.ref i) (.ref a)
  | fn (x : Str) : RV K m H (.fn x) (.ref (He.ga K x))
  | lis {l : List D} {a : Addr} {xs : List V} : FzL K H a xs → RVs K m H l xs → RV K m H (.lis l) (.ref a)
inductive RVs (K : PySem.W.Frag) (m : List Addr) (H : Hp) : List D → List V → Prop where
  | nil : RVs K m H [] []
  | cons {d : D} {v : V} {l : List D} {r : List V} : RV K m H d v → RVs K m H l r → RVs K m H (d :: l) (v :: r)
end
/-- one thing of the store -/
def keyOk : DKey → Bool
  | .inl _ => true
  | .inr z => PyData.strOk z
def RK (K : PySem.W.Frag) (m : List Addr) (H : Hp) (l : List (DKey × D)) (r : List (Key × V)) : Prop := (l.map (·.1) = r.map (·.1) ∧ ∀ p ∈ l, keyOk p.1 = true) ∧ RVs K m H (l.map (·.2)) (r.map (·.2))
def RO (K : PySem.W.Frag) (m : List Addr) (H : Hp) : O → Addr → Prop
  | .lst l, a => ∃ xs, H a = some (.lst xs) ∧ RVs K m H l xs
  | .dct false l, a => ∃ kvs, H a = some (.dK kvs) ∧ RK K m H l kvs
  | .dct true l, a => ∃ od kvs, H a = some (.frz od (.dK kvs)) ∧ RK K m H l kvs
/-- what the things of the store are -/
def IsO : HO → Prop
  | .lst _ => True
  | .dK _ => True
  | .frz _ (.dK _) => True
  | _ => False
structure Sim (K : PySem.W.Frag) (m : List Addr) (H : Hp) (S : Sto) : Prop where
  len : m.length = S.length
  nd : m.Nodup
  ob : ∀ (i : Nat) (a : Addr) (o : O), m[i]? = some a → S[i]? = some o → RO K m H o a
structure Step (m : List Addr) (H : Hp) (m' : List Addr) (H' : Hp) : Prop where
  pre : ∃ r, m' = m ++ r
  new : ∀ b ∈ m', b ∉ m → H b = none
  fr : ∀ b o, H b = some o → b ∉ m → H' b = some o
  fz : ∀ b o u, H b = some (.frz o u) → H' b = some (.frz o u)
section
variable {K : PySem.W.Frag} {m m' m2 : List Addr} {H H' H2 : Hp} {S : Sto}
theorem Step.refl : Step m H m H := ⟨⟨[], by simp⟩, fun _ a b => absurd a b, fun _ _ h _ => h, fun _ _ _ h => h⟩
theorem Step.trans (a : Step m H m' H') (b : Step m' H' m2 H2) : Step m H m2 H2 := by
  obtain ⟨r, e⟩ := a.pre
  obtain ⟨r', e'⟩ := b.pre
  have inm : ∀ x, x ∈ m → x ∈ m' := fun x hx => by rw [e]; exact List.mem_append_left _ hx
  have out : ∀ x o, H x = some o → x ∉ m → x ∉ m' := fun x o h n hx => by
    have := a.new x hx n
    rw [h] at this; cases this
  refine ⟨⟨r ++ r', by rw [e', e, List.append_assoc]⟩, fun x hx n => ?_, fun x o h n => ?_, fun x o u h => b.fz x o u (a.fz x o u h)⟩
  · by_cases hx' : x ∈ m'
    · exact a.new x hx' n
    · cases q : H x with
      | none => rfl
      | some o =>
        have z := a.fr x o q n
        have := b.new x hx hx'
        rw [z] at this; cases this
  · exact b.fr x o (a.fr x o h n) (out x o h n)
theorem Step.get (a : Step m H m' H') {i : Nat} {x : Addr} (h : m[i]? = some x) : m'[i]? = some x := by
  obtain ⟨r, e⟩ := a.pre
  rw [e, List.getElem?_append_left (List.getElem?_eq_some_iff.mp h).1]
  exact h
theorem RO.at_ {o : O} {a : Addr} (h : RO K m H o a) : ∃ u, H a = some u ∧ IsO u := by
  cases o with
  | lst l => obtain ⟨xs, e, _⟩ := h; exact ⟨_, e, trivial⟩
  | dct lk l =>
    cases lk with
    | false => obtain ⟨xs, e, _⟩ := h; exact ⟨_, e, trivial⟩
    | true => obtain ⟨od, xs, e, _⟩ := h; exact ⟨_, e, trivial⟩
theorem Sim.obj_of (q : Sim K m H S) {a : Addr} (h : a ∈ m) : ∃ u, H a = some u ∧ IsO u := by
  obtain ⟨i, hi, e⟩ := List.getElem_of_mem h
  have hi' : i < S.length := by rw [← q.len]; exact hi
  exact (q.ob i a S[i] (by rw [List.getElem?_eq_getElem hi, e]) (List.getElem?_eq_getElem hi')).at_
theorem Sim.tup_out (q : Sim K m H S) {a : Addr} {xs : List V} (h : H a = some (.tup xs)) : a ∉ m := fun z => by
  obtain ⟨u, e, i⟩ := q.obj_of z
  rw [h] at e; cases e; exact i
theorem Step.sqT (a : Step m H m' H') (q : Sim K m H S) {x : Addr} {xs : List V} (h : SqT K H x xs) : SqT K H' x xs := by
  rcases h with (h | ⟨o, h⟩) | h
  · exact .inl (.inl (a.fr _ _ h (q.tup_out h)))
  · exact .inl (.inr ⟨o, a.fz _ _ _ h⟩)
  · exact .inr h
theorem Step.fzL (a : Step m H m' H') {x : Addr} {xs : List V} (h : FzL K H x xs) : FzL K H' x xs := by
  rcases h with ⟨o, h⟩ | h
  · exact .inl ⟨o, a.fz _ _ _ h⟩
  · exact .inr h
mutual
theorem RV.mapH (hT : ∀ x xs, SqT K H x xs → SqT K H' x xs) (hF : ∀ x xs, FzL K H x xs → FzL K H' x xs) (hm : ∀ (i : Nat) (x : Addr), m[i]? = some x → m'[i]? = some x) : ∀ {d : D} {v : V}, RV K m H d v → RV K m' H' d v
  | _, _, .non => .non
  | _, _, .bl b => .bl b
  | _, _, .int i => .int i
  | _, _, .str h => .str h
  | _, _, .tup h r => .tup (hT _ _ h) (RVs.mapH hT hF hm r)
  | _, _, .ref h => .ref (hm _ _ h)
  | _, _, .fn x => .fn x
  | _, _, .lis h r => .lis (hF _ _ h) (RVs.mapH hT hF hm r)
theorem RVs.mapH (hT : ∀ x xs, SqT K H x xs → SqT K H' x xs) (hF : ∀ x xs, FzL K H x xs → FzL K H' x xs) (hm : ∀ (i : Nat) (x : Addr), m[i]? = some x → m'[i]? = some x) : ∀ {l : List D} {r : List V}, RVs K m H l r → RVs K m' H' l r
  | _, _, .nil => .nil
  | _, _, .cons h t => .cons (RV.mapH hT hF hm h) (RVs.mapH hT hF hm t)
end
theorem RV.mono (a : Step m H m' H') (q : Sim K m H S) {d : D} {v : V} (h : RV K m H d v) : RV K m' H' d v := h.mapH (fun _ _ z => a.sqT q z) (fun _ _ z => a.fzL z) fun _ _ z => a.get z
theorem RVs.mono (a : Step m H m' H') (q : Sim K m H S) {l : List D} {r : List V} (h : RVs K m H l r) : RVs K m' H' l r := h.mapH (fun _ _ z => a.sqT q z) (fun _ _ z => a.fzL z) fun _ _ z => a.get z
/-- a list that m does not name is written -/
theorem sqT_upd {p : Addr} {ys : List V} {o : HO} (hp : H p = some (.lst ys)) {x : Addr} {xs : List V} (h : SqT K H x xs) : SqT K (upd H p o) x xs := by
  rcases h with (h | ⟨u, h⟩) | h
  · exact .inl (.inl (by rw [upd_ne (ne_of h hp (by intro z; cases z))]; exact h))
  · exact .inl (.inr ⟨u, by rw [upd_ne (ne_of h hp (by intro z; cases z))]; exact h⟩)
  · exact .inr h
theorem fzL_upd {p : Addr} {ys : List V} {o : HO} (hp : H p = some (.lst ys)) {x : Addr} {xs : List V} (h : FzL K H x xs) : FzL K (upd H p o) x xs := by
  rcases h with ⟨u, h⟩ | h
  · exact .inl ⟨u, by rw [upd_ne (ne_of h hp (by intro z; cases z))]; exact h⟩
  · exact .inr h
theorem RV.updO {p : Addr} {ys : List V} {o : HO} (hp : H p = some (.lst ys)) {d : D} {v : V} (h : RV K m H d v) : RV K m (upd H p o) d v := h.mapH (fun _ _ => sqT_upd hp) (fun _ _ => fzL_upd hp) fun _ _ z => z
theorem RVs.updO {p : Addr} {ys : List V} {o : HO} (hp : H p = some (.lst ys)) {l : List D} {r : List V} (h : RVs K m H l r) : RVs K m (upd H p o) l r := h.mapH (fun _ _ => sqT_upd hp) (fun _ _ => fzL_upd hp) fun _ _ z => z
theorem RO.mapO {o : O} {a : Addr} (e : H' a = H a) (f : ∀ l xs, RVs K m H l xs → RVs K m' H' l xs) (h : RO K m H o a) : RO K m' H' o a := by
  cases o with
  | lst l => obtain ⟨xs, e1, r⟩ := h; exact ⟨xs, e.trans e1, f _ _ r⟩
  | dct lk l =>
    cases lk with
    | false => obtain ⟨xs, e1, r⟩ := h; exact ⟨xs, e.trans e1, r.1, f _ _ r.2⟩
    | true => obtain ⟨od, xs, e1, r⟩ := h; exact ⟨od, xs, e.trans e1, r.1, f _ _ r.2⟩
theorem Sim.updO {p : Addr} {ys : List V} {o : HO} (q : Sim K m H S) (hp : H p = some (.lst ys)) (n : p ∉ m) : Sim K m (upd H p o) S := ⟨q.len, q.nd, fun i x u h1 h2 => by
  have z := q.ob i x u h1 h2
  have ne : x ≠ p := fun e => n (by rw [← e]; exact List.mem_of_getElem? h1)
  exact z.mapO (upd_ne ne) fun _ _ r => r.updO hp⟩
theorem RVs.length : ∀ {l : List D} {r : List V}, RVs K m H l r → l.length = r.length
  | _, _, .nil => rfl
  | _, _, .cons _ t => by simp [RVs.length t]
theorem RVs.get : ∀ {l : List D} {r : List V} {i : Nat} {d : D}, RVs K m H l r → l[i]? = some d → ∃ v, r[i]? = some v ∧ RV K m H d v
  | _, _, _, _, .nil, e => by simp at e
  | _, _, 0, _, .cons h _, e => by simp at e; subst e; exact ⟨_, rfl, h⟩
  | _, _, i + 1, _, .cons _ t, e => by
    obtain ⟨v, h1, h2⟩ := RVs.get (i := i) t (by simpa using e)
    exact ⟨v, by simpa using h1, h2⟩
theorem RVs.get' : ∀ {l : List D} {r : List V} {i : Nat} {v : V}, RVs K m H l r → r[i]? = some v → ∃ d, l[i]? = some d ∧ RV K m H d v
  | _, _, _, _, .nil, e => by simp at e
  | _, _, 0, _, .cons h _, e => by simp at e; subst e; exact ⟨_, rfl, h⟩
  | _, _, i + 1, _, .cons _ t, e => by
    obtain ⟨v, h1, h2⟩ := RVs.get' (i := i) t (by simpa using e)
    exact ⟨v, by simpa using h1, h2⟩
theorem RVs.append : ∀ {l l' : List D} {r r' : List V}, RVs K m H l r → RVs K m H l' r' → RVs K m H (l ++ l') (r ++ r')
  | _, _, _, _, .nil, s => s
  | _, _, _, _, .cons h t, s => .cons h (RVs.append t s)
theorem RVs.take : ∀ {l : List D} {r : List V} (n : Nat), RVs K m H l r → RVs K m H (l.take n) (r.take n)
  | _, _, 0, _ => .nil
  | _, _, _ + 1, .nil => .nil
  | _, _, n + 1, .cons h t => .cons h (RVs.take n t)
theorem RVs.drop : ∀ {l : List D} {r : List V} (n : Nat), RVs K m H l r → RVs K m H (l.drop n) (r.drop n)
  | _, _, 0, h => h
  | _, _, _ + 1, .nil => .nil
  | _, _, n + 1, .cons _ t => RVs.drop n t
theorem RVs.set {d : D} {v : V} (h : RV K m H d v) : ∀ {l : List D} {r : List V} (i : Nat), RVs K m H l r → RVs K m H (l.set i d) (r.set i v)
  | _, _, _, .nil => .nil
  | _, _, 0, .cons _ t => .cons h t
  | _, _, i + 1, .cons h' t => .cons h' (RVs.set h i t)
theorem RVs.rep {l : List D} {r : List V} (h : RVs K m H l r) : ∀ k : Nat, RVs K m H (List.replicate k l).flatten (List.replicate k r).flatten
  | 0 => .nil
  | k + 1 => by
    rw [List.replicate_succ, List.replicate_succ, List.flatten_cons, List.flatten_cons]
    exact RVs.append h (RVs.rep h k)
/-- things below n alone: the rest of m does not matter -/
theorem RV.cut' (n : Nat) (hn : n ≤ m.length) : True := trivial
mutual
theorem RV.cut {n : Nat} {m2 : List Addr} (e : ∀ i, i < n → m2[i]? = m[i]?) : ∀ {d : D} {v : V}, d.upTo n = true → RV K m H d v → RV K m2 H d v
  | _, _, _, .non => .non
  | _, _, _, .bl b => .bl b
  | _, _, _, .int i => .int i
  | _, _, _, .str h => .str h
  | _, _, u, .tup h r => .tup h (RVs.cut e (by simpa [D.upTo] using u) r)
  | _, _, u, .ref h => .ref (by rw [e _ (by simpa [D.upTo] using u)]; exact h)
  | _, _, _, .fn x => .fn x
  | _, _, u, .lis h r => .lis h (RVs.cut e (by simpa [D.upTo] using u) r)
theorem RVs.cut {n : Nat} {m2 : List Addr} (e : ∀ i, i < n → m2[i]? = m[i]?) : ∀ {l : List D} {r : List V}, D.upTos n l = true → RVs K m H l r → RVs K m2 H l r
  | _, _, _, .nil => .nil
  | _, _, u, .cons h t => by
    have u' : (D.upTo n _ && D.upTos n _) = true := u
    rw [Bool.and_eq_true] at u'
    exact .cons (RV.cut e u'.1 h) (RVs.cut e u'.2 t)
end
end
section
variable {K : PySem.W.Frag} {m m' m2 : List Addr} {H H' H2 : Hp} {S : Sto}
/-- all that is known of the things stands as it was -/
theorem Sim.mono (q : Sim K m H S) (a : Step m H m H') (k : ∀ b ∈ m, H' b = H b) : Sim K m H' S := ⟨q.len, q.nd, fun i x o h1 h2 => by
  exact (q.ob i x o h1 h2).mapO (k x (List.mem_of_getElem? h1)) fun _ _ r => r.mono a q⟩
/-- a new untracked-by-m object -/
theorem Step.put {p : Addr} {o : HO} (hp : H p = none) : Step m H m (upd H p o) := ⟨⟨[], by simp⟩, fun _ a b => absurd a b, fun b u h _ => by
  rw [upd_ne (ne_of_none h hp)]; exact h, fun b o u h => by rw [upd_ne (ne_of_none h hp)]; exact h⟩
theorem Sim.free (q : Sim K m H S) {p : Addr} (hp : H p = none) : p ∉ m := fun z => by
  obtain ⟨xs, e, _⟩ := q.obj_of z
  rw [hp] at e; cases e
theorem Sim.put (q : Sim K m H S) {p : Addr} {o : HO} (hp : H p = none) : Sim K m (upd H p o) S :=
  q.mono (Step.put hp) fun b hb => upd_ne fun e => q.free hp (e ▸ hb)
theorem Step.alloc {p : Addr} {o : HO} (hp : H p = none) : Step m H (m ++ [p]) (upd H p o) := ⟨⟨[p], rfl⟩, fun b hb n => by
  rcases List.mem_append.mp hb with z | z
  · exact absurd z n
  · rw [List.mem_singleton] at z; rw [z]; exact hp, fun b u h _ => by
  rw [upd_ne (ne_of_none h hp)]; exact h, fun b o u h => by rw [upd_ne (ne_of_none h hp)]; exact h⟩
/-- one more thing -/
theorem Sim.more (q : Sim K m H S) {p : Addr} {ob : O} (n : p ∉ m) (st : Step m H (m ++ [p]) H') (k : ∀ b ∈ m, H' b = H b) (new : RO K (m ++ [p]) H' ob p) : Sim K (m ++ [p]) H' (S ++ [ob]) := by
  refine ⟨by simp [q.len], ?_, fun i x o h1 h2 => ?_⟩
  · rw [List.nodup_append]
    refine ⟨q.nd, by simp, fun a ha b hb => ?_⟩
    rw [List.mem_singleton] at hb
    subst hb
    exact fun e => n (e ▸ ha)
  · by_cases hi : i < m.length
    · rw [List.getElem?_append_left hi] at h1
      rw [List.getElem?_append_left (by rw [← q.len]; exact hi)] at h2
      exact (q.ob i x o h1 h2).mapO (k x (List.mem_of_getElem? h1)) fun _ _ r => r.mono st q
    · have hi' : m.length ≤ i := Nat.le_of_not_lt hi
      rw [List.getElem?_append_right hi'] at h1
      rw [List.getElem?_append_right (by rw [← q.len]; exact hi')] at h2
      have e0 : i - m.length = 0 := by
        by_cases z : i - m.length = 0
        · exact z
        · rw [List.getElem?_eq_none (by simp; omega)] at h1; cases h1
      rw [e0] at h1
      rw [← q.len, e0] at h2
      simp at h1 h2
      subst h1 h2
      exact new
theorem Sim.allocO (q : Sim K m H S) {p : Addr} {u : HO} {ob : O} (hp : H p = none) (new : RO K (m ++ [p]) (upd H p u) ob p) : Sim K (m ++ [p]) (upd H p u) (S ++ [ob]) :=
  q.more (q.free hp) (.alloc hp) (fun b hb => upd_ne fun e => q.free hp (e ▸ hb)) new
theorem Sim.alloc (q : Sim K m H S) {p : Addr} {l : List D} {xs : List V} (hp : H p = none) (r : RVs K m H l xs) : Sim K (m ++ [p]) (upd H p (.lst xs)) (S ++ [.lst l]) :=
  q.allocO hp ⟨xs, upd_same, r.mono (.alloc hp) q⟩
theorem Step.write {i : Nat} {a : Addr} {o : HO} (h : m[i]? = some a) (nf : ∀ o u, H a ≠ some (.frz o u)) : Step m H m (upd H a o) := ⟨⟨[], by simp⟩, fun _ a b => absurd a b, fun b u hb n => by
  have ne : b ≠ a := fun e => n (by rw [e]; exact List.mem_of_getElem? h)
  rw [upd_ne ne]; exact hb, fun b o u hb => by
  have ne : b ≠ a := fun e => nf o u (by rw [← e]; exact hb)
  rw [upd_ne ne]; exact hb⟩
theorem nd_ix {m : List Addr} (nd : m.Nodup) {i j : Nat} {a : Addr} (h : m[i]? = some a) (h' : m[j]? = some a) : i = j := by
  obtain ⟨h1, e1⟩ := List.getElem?_eq_some_iff.mp h
  obtain ⟨h2, e2⟩ := List.getElem?_eq_some_iff.mp h'
  exact (List.getElem_inj nd).mp (e1.trans e2.symm)
/-- one thing is replaced (f: what is known of values stays known) -/
theorem Sim.swap (q : Sim K m H S) {i : Nat} {a : Addr} {u : HO} {ob : O} (h : m[i]? = some a) (f : ∀ l xs, RVs K m H l xs → RVs K m (upd H a u) l xs) (new : RO K m (upd H a u) ob a) : Sim K m (upd H a u) (S.set i ob) := by
  refine ⟨by simp [q.len], q.nd, fun j x o h1 h2 => ?_⟩
  by_cases e : j = i
  · subst e
    rw [h] at h1; cases h1
    have hj : j < S.length := by rw [← q.len]; exact (List.getElem?_eq_some_iff.mp h).1
    rw [List.getElem?_set_self hj] at h2
    cases h2
    exact new
  · rw [List.getElem?_set_ne (Ne.symm e)] at h2
    have ne : x ≠ a := fun z => e (nd_ix q.nd h1 (z ▸ h))
    exact (q.ob j x o h1 h2).mapO (upd_ne ne) f
theorem Sim.write (q : Sim K m H S) {i : Nat} {a : Addr} {l : List D} {xs : List V} (h : m[i]? = some a) (nf : ∀ o u, H a ≠ some (.frz o u)) (r : RVs K m H l xs) : Sim K m (upd H a (.lst xs)) (S.set i (.lst l)) :=
  q.swap h (fun _ _ r => r.mono (.write h nf) q) ⟨xs, upd_same, r.mono (.write h nf) q⟩
theorem nf_lst {a : Addr} {xs : List V} (h : H a = some (.lst xs)) : ∀ o u, H a ≠ some (.frz o u) := fun o u e => by rw [h] at e; cases e
theorem nf_dK {a : Addr} {xs : List (Key × V)} (h : H a = some (.dK xs)) : ∀ o u, H a ≠ some (.frz o u) := fun o u e => by rw [h] at e; cases e
/-- the values are as known, wherever a dict of the store is locked or not -/
theorem RVs.lock {a : Addr} {kvs : List (Key × V)} {od : Obj} (e : H a = some (.dK kvs)) {l : List D} {xs : List V} (r : RVs K m H l xs) : RVs K m (upd H a (.frz od (.dK kvs))) l xs :=
  r.mapH (fun x xs h => by
    rcases h with (h | ⟨o, h⟩) | h
    · exact .inl (.inl (by rw [upd_ne (ne_of h e (by intro z; cases z))]; exact h))
    · exact .inl (.inr ⟨o, by rw [upd_ne (ne_of h e (by intro z; cases z))]; exact h⟩)
    · exact .inr h) (fun x xs h => by
    rcases h with ⟨o, h⟩ | h
    · exact .inl ⟨o, by rw [upd_ne (ne_of h e (by intro z; cases z))]; exact h⟩
    · exact .inr h) fun _ _ z => z
theorem RVs.unlock {a : Addr} {kvs : List (Key × V)} {od : Obj} (e : H a = some (.frz od (.dK kvs))) {l : List D} {xs : List V} (r : RVs K m H l xs) : RVs K m (upd H a (.dK kvs)) l xs :=
  r.mapH (fun x xs h => by
    rcases h with (h | ⟨o, h⟩) | h
    · exact .inl (.inl (by rw [upd_ne (ne_of h e (by intro z; cases z))]; exact h))
    · exact .inl (.inr ⟨o, by rw [upd_ne (ne_of h e (by intro z; cases z))]; exact h⟩)
    · exact .inr h) (fun x xs h => by
    rcases h with ⟨o, h⟩ | h
    · exact .inl ⟨o, by rw [upd_ne (ne_of h e (by intro z; cases z))]; exact h⟩
    · exact .inr h) fun _ _ z => z
/-! dicts -/
theorem RK.nil : RK K m H [] [] := ⟨⟨rfl, fun _ h => nomatch h⟩, .nil⟩
theorem RK.length {l : List (DKey × D)} {r : List (Key × V)} (h : RK K m H l r) : l.length = r.length := by
  have := h.2.length
  simpa using this
theorem RK.val (k : DKey) : ∀ {l : List (DKey × D)} {r : List (Key × V)}, RK K m H l r → match valD l k, L2.valV r k with
    | some d, some v => RV K m H d v
    | none, none => True
    | _, _ => False
  | [], [], _ => trivial
  | [], _ :: _, h => by cases h.2
  | _ :: _, [], h => by cases h.2
  | (k1, d) :: l, (k2, v) :: r, ⟨⟨h1, h0⟩, h2⟩ => by
    have e : k1 = k2 := (List.cons.inj h1).1
    cases h2 with
    | cons rv rr =>
      have ih := RK.val k (l := l) (r := r) ⟨⟨(List.cons.inj h1).2, fun p hp => h0 p (List.mem_cons_of_mem _ hp)⟩, rr⟩
      subst e
      unfold valD L2.valV at ih ⊢
      rw [List.find?_cons, List.find?_cons]
      by_cases hk : k1 = k
      · simp only [hk, decide_true]
        exact rv
      · simp only [hk, decide_false]
        exact ih
theorem RK.some_ {k : DKey} {l : List (DKey × D)} {r : List (Key × V)} (h : RK K m H l r) {d : D} (e : valD l k = some d) : ∃ v, L2.valV r k = some v ∧ RV K m H d v := by
  have := h.val k
  rw [e] at this
  cases q : L2.valV r k with
  | none => rw [q] at this; exact this.elim
  | some v => rw [q] at this; exact ⟨v, rfl, this⟩
theorem RK.isSome {k : DKey} {l : List (DKey × D)} {r : List (Key × V)} (h : RK K m H l r) : (L2.valV r k).isSome = (valD l k).isSome := by
  have := h.val k
  cases q : L2.valV r k <;> cases q' : valD l k <;> rw [q, q'] at this <;> first | rfl | exact this.elim
theorem any_keys {k : DKey} : ∀ {l : List (DKey × D)} {r : List (Key × V)}, l.map (·.1) = r.map (·.1) → (l.any fun p => decide (p.1 = k)) = (r.any fun p => decide (p.1 = k))
  | [], [], _ => rfl
  | [], _ :: _, e => by cases e
  | _ :: _, [], e => by cases e
  | p :: l, p' :: r, e => by
    have e1 : p.1 = p'.1 := (List.cons.inj e).1
    rw [List.any_cons, List.any_cons, any_keys (List.cons.inj e).2, e1]
theorem fst_repl {α : Type} (k : DKey) (d : α) : ∀ l : List (DKey × α), (l.map fun p => if p.1 = k then (p.1, d) else p).map (·.1) = l.map (·.1)
  | [] => rfl
  | p :: l => by
    rw [List.map_cons, List.map_cons, List.map_cons, fst_repl k d l]
    by_cases hk : p.1 = k
    · rw [if_pos hk]
    · rw [if_neg hk]
theorem RK.repl {k : DKey} {d : D} {v : V} (rv : RV K m H d v) : ∀ {l : List (DKey × D)} {r : List (Key × V)}, l.map (·.1) = r.map (·.1) → RVs K m H (l.map (·.2)) (r.map (·.2)) →
    RVs K m H ((l.map fun p => if p.1 = k then (p.1, d) else p).map (·.2)) ((r.map fun p => if p.1 = k then (p.1, v) else p).map (·.2))
  | [], [], _, h => h
  | [], _ :: _, e, _ => by cases e
  | _ :: _, [], e, _ => by cases e
  | p :: l, p' :: r, e, h => by
    have e1 : p.1 = p'.1 := (List.cons.inj e).1
    cases h with
    | cons a b =>
      have ih := RK.repl (k := k) rv (List.cons.inj e).2 b
      by_cases hk : p'.1 = k
      · have hk' : p.1 = k := e1.trans hk
        rw [List.map_cons, List.map_cons, List.map_cons, List.map_cons, if_pos hk, if_pos hk']
        exact .cons rv ih
      · have hk' : ¬ p.1 = k := fun z => hk (e1.symm.trans z)
        rw [List.map_cons, List.map_cons, List.map_cons, List.map_cons, if_neg hk, if_neg hk']
        exact .cons a ih
theorem RK.put {k : DKey} {l : List (DKey × D)} {r : List (Key × V)} (h : RK K m H l r) (hk : keyOk k = true) {d : D} {v : V} (rv : RV K m H d v) : RK K m H (putD l k d) (L2.putK r k v) := by
  unfold putD L2.putK
  rw [any_keys h.1.1]
  by_cases c : (r.any fun p => decide (p.1 = k)) = true
  · rw [if_pos c, if_pos c]
    refine ⟨⟨by rw [fst_repl, fst_repl, h.1.1], fun p hp => ?_⟩, RK.repl rv h.1.1 h.2⟩
    obtain ⟨p0, h0, e0⟩ := List.mem_map.mp hp
    have := h.1.2 p0 h0
    by_cases z : p0.1 = k
    · rw [if_pos z] at e0; rw [← e0]; exact this
    · rw [if_neg z] at e0; rw [← e0]; exact this
  · rw [if_neg c, if_neg c]
    refine ⟨⟨by rw [List.map_append, List.map_append, h.1.1]; rfl, fun p hp => ?_⟩, ?_⟩
    · rcases List.mem_append.mp hp with hp | hp
      · exact h.1.2 p hp
      · rw [List.mem_singleton.mp hp]; exact hk
    · rw [List.map_append, List.map_append]
      exact h.2.append (.cons rv .nil)
theorem Sim.dct_ (q : Sim K m H S) {i : Nat} {a : Addr} {l : List (DKey × D)} (h : m[i]? = some a) (e : dctAt S i = some l) : ∃ kvs, L2.Rd H a (.dK kvs) ∧ RK K m H l kvs := by
  unfold dctAt at e
  split at e
  · rename_i lk l' h2
    cases e
    have z := q.ob i a _ h h2
    cases lk with
    | false => obtain ⟨kvs, e, r⟩ := z; exact ⟨kvs, .inl e, r⟩
    | true => obtain ⟨od, kvs, e, r⟩ := z; exact ⟨kvs, .inr ⟨od, e⟩, r⟩
  · cases e
theorem keyOf_ok {d : D} {v : V} {k : DKey} (r : RV K m H d v) (e : keyOf d = some k) : keyOk k = true := by
  unfold keyOf at e
  split at e
  · cases e; rfl
  · cases e
    cases r with
    | str h => exact h
  · cases e
theorem keyOf_rv {d : D} {v : V} {k : DKey} (r : RV K m H d v) (e : keyOf d = some k) : v = L2.kV k := by
  unfold keyOf at e
  split at e
  · cases r; cases e; rfl
  · cases r; cases e; rfl
  · cases e
theorem Sim.at_ (q : Sim K m H S) {i : Nat} {a : Addr} {l : List D} (h : m[i]? = some a) (e : lstAt S i = some l) : ∃ xs, H a = some (.lst xs) ∧ RVs K m H l xs := by
  unfold lstAt at e
  split at e
  · rename_i l' h2
    cases e
    exact q.ob i a _ h h2
  · cases e
theorem RO.cutO {o : O} {a : Addr} {n : Nat} (c : ∀ i, i < n → m2[i]? = m[i]?) (u : O.up n o = true) (h : RO K m H o a) : RO K m2 H o a := by
  cases o with
  | lst l => obtain ⟨xs, e1, r⟩ := h; exact ⟨xs, e1, r.cut c u⟩
  | dct lk l =>
    cases lk with
    | false => obtain ⟨xs, e1, r⟩ := h; exact ⟨xs, e1, r.1, r.2.cut c u⟩
    | true => obtain ⟨od, xs, e1, r⟩ := h; exact ⟨od, xs, e1, r.1, r.2.cut c u⟩
/-- the store cut back to n things -/
theorem Sim.take (q : Sim K m H S) {n : Nat} {S0 : Sto} (hn : n ≤ S.length) (hk : keptOk n S0 (S.take n) = true) (q0 : ∀ o ∈ S0, O.up n o = true) : Sim K (m.take n) H (S.take n) := by
  have cut : ∀ i, i < n → (m.take n)[i]? = m[i]? := fun i hi => List.getElem?_take_of_lt hi
  have up : ∀ (l0 l1 : Sto), keptOk n l0 l1 = true → (∀ o ∈ l0, O.up n o = true) → ∀ o ∈ l1, O.up n o = true := by
    intro l0
    induction l0 with
    | nil =>
      intro l1 h _ o ho
      cases l1 with
      | nil => cases ho
      | cons _ _ => cases h
    | cons a l ih =>
      intro l1 h h0 o ho
      cases l1 with
      | nil => cases h
      | cons b r =>
        have h' : ((decide (a = b) || O.up n b) && keptOk n l r) = true := h
        rw [Bool.and_eq_true, Bool.or_eq_true] at h'
        rcases List.mem_cons.mp ho with e | ho
        · subst e
          rcases h'.1 with e | e
          · have e' := of_decide_eq_true e
            subst e'
            exact h0 _ (List.mem_cons_self ..)
          · exact e
        · exact ih r h'.2 (fun o h => h0 o (List.mem_cons_of_mem _ h)) o ho
  have all := up S0 (S.take n) hk q0
  refine ⟨by simp [q.len], q.nd.sublist (List.take_sublist _ _), fun i x o h1 h2 => ?_⟩
  have hi : i < n := by
    have := (List.getElem?_eq_some_iff.mp h1).1
    rw [List.length_take] at this
    omega
  have ho := all o (List.mem_of_getElem? h2)
  rw [cut i hi] at h1
  rw [List.getElem?_take_of_lt hi] at h2
  have z := q.ob i x o h1 h2
  exact z.cutO cut ho
/-! what is known of a thing names things of m alone -/
mutual
theorem RV.up : ∀ {d : D} {v : V}, RV K m H d v → d.upTo m.length = true
  | _, _, .non => rfl
  | _, _, .bl b => rfl
  | _, _, .int i => rfl
  | _, _, .str h => rfl
  | _, _, .tup h r => by rw [D.upTo]; exact RVs.up r
  | _, _, .ref h => by rw [D.upTo]; exact decide_eq_true (List.getElem?_eq_some_iff.mp h).1
  | _, _, .fn x => rfl
  | _, _, .lis h r => by rw [D.upTo]; exact RVs.up r
theorem RVs.up : ∀ {l : List D} {xs : List V}, RVs K m H l xs → D.upTos m.length l = true
  | _, _, .nil => rfl
  | _, _, .cons h t => by rw [D.upTos, RV.up h, RVs.up t]; rfl
end
theorem RO.up_ {o : O} {a : Addr} (h : RO K m H o a) : O.up m.length o = true := by
  cases o with
  | lst l => obtain ⟨xs, _, r⟩ := h; exact r.up
  | dct lk l =>
    cases lk with
    | false => obtain ⟨xs, _, r⟩ := h; exact r.2.up
    | true => obtain ⟨od, xs, _, r⟩ := h; exact r.2.up
theorem Sim.up (q : Sim K m H S) : ∀ o ∈ S, O.up S.length o = true := fun o ho => by
  obtain ⟨i, hi, e⟩ := List.getElem_of_mem ho
  have hi' : i < m.length := by rw [q.len]; exact hi
  rw [← q.len]
  exact (q.ob i m[i] o (List.getElem?_eq_getElem hi') (by rw [List.getElem?_eq_getElem hi, e])).up_
end

/-! ### equality -/
mutual
def toPy : D → PyData
  | .non => .none
  | .bl b => .bool b
  | .int i => .int i
  | .str z => .str z
  | .tup l => .tuple (toPys l)
  | _ => .none
def toPys : List D → List PyData
  | [] => []
  | d :: l => toPy d :: toPys l
end
section
variable {K : PySem.W.Frag} {m : List Addr} {H : Hp}
mutual
theorem RV.dp : ∀ {d : D} {v : V}, d.pure = true → RV K m H d v → Dp K H v (toPy d) ∧ (toPy d).canLay0 = true ∧ (toPy d).depth = d.deep
  | _, _, _, .non => by rw [toPy]; exact ⟨.non, by simp [PyData.canLay0], by simp [PyData.depth, D.deep]⟩
  | _, _, _, .bl b => by rw [toPy]; exact ⟨.bl b, by simp [PyData.canLay0], by simp [PyData.depth, D.deep]⟩
  | _, _, _, .int i => by rw [toPy]; exact ⟨.int i, by simp [PyData.canLay0], by simp [PyData.depth, D.deep]⟩
  | _, _, _, .str h => by rw [toPy]; exact ⟨.str _, by simp [PyData.canLay0, h], by simp [PyData.depth, D.deep]⟩
  | _, _, p, .tup h r => by
    rw [toPy]
    obtain ⟨a, b, c⟩ := RVs.dp (by simpa [D.pure] using p) r
    exact ⟨.tup h a, by simpa [PyData.canLay0] using b, by simp [PyData.depth, D.deep, c, Nat.add_comm]⟩
  | .ref _, _, p, _ => by simp [D.pure] at p
  | .fn _, _, p, _ => by simp [D.pure] at p
  | .lis _, _, p, _ => by simp [D.pure] at p
theorem RVs.dp : ∀ {l : List D} {xs : List V}, D.pures l = true → RVs K m H l xs → DpAll K H xs (toPys l) ∧ PyData.canLayAll0 (toPys l) = true ∧ PyData.depthAll (toPys l) = D.deeps l
  | _, _, _, .nil => by rw [toPys]; exact ⟨.nil, by simp [PyData.canLayAll0], by simp [PyData.depthAll, D.deeps]⟩
  | _, _, p, .cons h t => by
    rw [D.pures, Bool.and_eq_true] at p
    obtain ⟨a, b, c⟩ := RV.dp p.1 h
    obtain ⟨a', b', c'⟩ := RVs.dp p.2 t
    rw [toPys]
    exact ⟨.cons a a', by simp [PyData.canLayAll0, b, b'], by simp [PyData.depthAll, D.deeps, c, c']⟩
end
mutual
theorem peq_py : ∀ a b : D, a.pure = true → b.pure = true → peq a b = PyData.eqv (toPy a) (toPy b)
  | .non, b, _, p => by cases b <;> simp_all [peq, toPy, PyData.eqv, D.pure]
  | .bl _, b, _, p => by cases b <;> simp_all [peq, toPy, PyData.eqv, D.pure]
  | .int _, b, _, p => by cases b <;> simp_all [peq, toPy, PyData.eqv, D.pure]
  | .str x, b, _, p => by
    cases b <;> simp_all [peq, toPy, PyData.eqv, D.pure]
    rename_i y
    by_cases e : x = y
    · subst e; simp
    · simp [e]
  | .tup l, b, q, p => by
    cases b <;> simp_all [peq, toPy, PyData.eqv, D.pure]
    exact peqs_py l _ q p
  | .ref _, _, q, _ => by simp [D.pure] at q
  | .fn _, _, q, _ => by simp [D.pure] at q
  | .lis _, _, q, _ => by simp [D.pure] at q
theorem peqs_py : ∀ a b : List D, D.pures a = true → D.pures b = true → peqs a b = PyData.eqvAll (toPys a) (toPys b)
  | [], b, _, p => by cases b <;> simp [peqs, toPys, PyData.eqvAll]
  | x :: l, [], _, p => by simp [peqs, toPys, PyData.eqvAll]
  | x :: l, y :: r, q, p => by
    rw [D.pures, Bool.and_eq_true] at p q
    rw [peqs, toPys, toPys, PyData.eqvAll, peq_py x y q.1 p.1, peqs_py l r q.2 p.2]
end
theorem any_py {x : D} (hx : x.pure = true) : ∀ l : List D, D.pures l = true → ((toPys l).any fun z => PyData.eqv z (toPy x)) = l.any fun z => peq z x
  | [], _ => by simp [toPys]
  | y :: l, p => by
    rw [D.pures, Bool.and_eq_true] at p
    rw [toPys, List.any_cons, List.any_cons, any_py hx l p.2, peq_py y x p.1 hx]
end
end SB
end

section
set_option maxHeartbeats 2000000
namespace SB
open PySem PySem.Spec PyProof.Rows L2

/-! ### what an evaluation tells -/
inductive RF (K : PySem.W.Frag) (m : List Addr) (H : Hp) : List (Str × D) → List (Str × V) → Prop where
  | nil : RF K m H [] []
  | cons {x : Str} {d : D} {v : V} {l : List (Str × D)} {r : List (Str × V)} : RV K m H d v → RF K m H l r → RF K m H ((x, d) :: l) ((x, v) :: r)
/-- an exception by its data: the class, its own dict -/
def XR (K : PySem.W.Frag) (m : List Addr) (H : Hp) (c : Str) (fs : List (Str × D)) (cls : Value) (dx : Option Addr) : Prop :=
  cls = .ref (He.ga K c) ∧ match fs with
    | [] => dx = none
    | f :: r => ∃ a vs, dx = some a ∧ H a = some (.xd vs) ∧ RF K m H (f :: r) vs
abbrev XW := Value → Option Addr → List Addr → Hp → Prop
def Post {α β : Type} (K : PySem.W.Frag) (rel : List Addr → Hp → α → β → Prop) (m : List Addr) (H : Hp) (E : XW) (r : R α) (Q : β → Hp → Prop) : Prop := match r with
  | .ok d S' => ∀ v m' H', Step m H m' H' → Sim K m' H' S' → rel m' H' d v → Q v H'
  | .exc c fs S' => ∀ cls dx m' H', Step m H m' H' → Sim K m' H' S' → XR K m' H' c fs cls dx → E cls dx m' H'
  | .err => False
section
variable {α β γ δ : Type} {K : PySem.W.Frag} {rel : List Addr → Hp → α → β → Prop} {rel2 : List Addr → Hp → γ → δ → Prop} {m m1 : List Addr} {H H1 : Hp} {E : XW} {S : Sto} {r : R α} {f : α → Sto → R γ} {Q : β → Hp → Prop} {Q2 : δ → Hp → Prop}
theorem Post.from (st : Step m H m1 H1) (h : Post K rel m H E r Q) : Post K rel m1 H1 E r Q := by
  cases r with
  | ok d S' => exact fun v m' H' s q r => h v m' H' (st.trans s) q r
  | exc c fs S' => exact fun cls dx m' H' s q r => h cls dx m' H' (st.trans s) q r
  | err => exact h
theorem Post.bind (h : Post K rel2 m H E (r.bind f) Q2) (g : ∀ d S1 x m1 H1, Step m H m1 H1 → Sim K m1 H1 S1 → rel m1 H1 d x → Post K rel2 m1 H1 E (f d S1) Q2 → Q x H1) : Post K rel m H E r Q := by
  cases r with
  | ok d S' => exact fun v m' H' s q r => g d S' v m' H' s q r (Post.from s h)
  | exc c fs S' => exact fun cls dx m' H' s q r => h cls dx m' H' s q r
  | err => exact h
end
/-- a value without the rest -/
abbrev relB : List Addr → Hp → Bool → Bool → Prop := fun _ _ a b => a = b
abbrev relI : List Addr → Hp → Option Int → Option Int → Prop := fun _ _ a b => a = b
theorem when_post {α β : Type} {K : PySem.W.Frag} {rel : List Addr → Hp → α → β → Prop} {m : List Addr} {H : Hp} {E : XW} {r : R α} {Q : β → Hp → Prop} {c : Bool} (h : Post K rel m H E (when c r) Q) : c = true ∧ Post K rel m H E r Q := by
  cases c with
  | true => exact ⟨rfl, h⟩
  | false => exact False.elim h

/-! ### operations by values -/
section
variable {X : Cx} {K : PySem.W.Frag} {m : List Addr} {H : Hp} {S : Sto} {E : XW} {Q : VK} {d e : D} {x y : V}
theorem lim_eq : lim = sizeLine := by rw [sizeLine_eq]; rfl
/-- a tuple at a new place -/
theorem post_tup {l : List D} {xs : List V} (h : Post K (RV K) m H E (.ok (.tup l) S) Q) (q : Sim K m H S) (r : RVs K m H l xs) : ∀ p, H p = none → Q (.ref p) (upd H p (.tup xs)) := fun p hp =>
  h _ m _ (Step.put hp) (q.put hp) (.tup (.of upd_same) (r.mono (Step.put hp) q))
theorem post_alloc {l : List D} {xs : List V} (h : Post K (RV K) m H E (alloc (.lst l) S) Q) (q : Sim K m H S) (r : RVs K m H l xs) : ∀ p, H p = none → Q (.ref p) (upd H p (.lst xs)) := fun p hp => by
  refine h _ (m ++ [p]) _ (Step.alloc hp) (q.alloc hp r) (.ref ?_)
  rw [← q.len, List.getElem?_append_right (Nat.le_refl _)]
  simp
theorem post_same (h : Post K (RV K) m H E (.ok d S) Q) (q : Sim K m H S) (r : RV K m H d x) : Q x H := h _ m H Step.refl q r
def rAdd' (K : PySem.W.Frag) : R2 := fun x y H Q => (∃ i j, x = .int i ∧ y = .int j ∧ Q (.int (i + j)) H) ∨ (∃ i j, x = .str i ∧ y = .str j ∧ i.length + j.length ≤ sizeLine ∧ Q (.str (i ++ j)) H) ∨ rCatA K x y H Q ∨ rCat x y H Q
theorem op_add' : OpR X (binaryOp .Add) (rAdd' X.K) := op_add.or (op_add_str.or (op_catA.or op_cat))
theorem strOk_app {a b : Str} (h : PyData.strOk a = true) (h' : PyData.strOk b = true) : PyData.strOk (a ++ b) = true := by
  have e : (a ++ b) = (⟨a.cps ++ b.cps⟩ : Str) := rfl
  rw [e]
  unfold PyData.strOk at h h' ⊢
  rw [Array.all_append, h, h']
  rfl
theorem add_cov (q : Sim K m H S) (rx : RV K m H d x) (ry : RV K m H e y) (h : Post K (RV K) m H E (binOp .add d e S) Q) : rAdd' K x y H Q := by
  unfold binOp at h
  dsimp only at h
  split at h
  · cases rx; cases ry
    exact .inl ⟨_, _, rfl, rfl, post_same h q (.int _)⟩
  · cases rx with
    | str hx =>
      cases ry with
      | str hy =>
        obtain ⟨c, h⟩ := when_post h
        rw [lim_eq] at c
        exact .inr (.inl ⟨_, _, rfl, rfl, of_decide_eq_true c, post_same h q (.str (strOk_app hx hy))⟩)
  · cases rx with
    | tup tx rx =>
      cases ry with
      | tup ty ry =>
        rename_i a xs b ys
        obtain ⟨c, h⟩ := when_post h
        rw [lim_eq, rx.length, ry.length] at c
        refine .inr (.inr (.inl ⟨a, b, xs, ys, rfl, rfl, tx, ty, of_decide_eq_true c, fun e => ?_, fun _ e => ?_, fun _ _ => post_tup h q (rx.append ry)⟩))
        · subst e
          cases rx
          exact post_same h q (.tup ty ry)
        · subst e
          cases ry
          rw [List.append_nil] at h
          exact post_same h q (.tup tx rx)
  · cases rx with
    | ref ex =>
      cases ry with
      | ref ey =>
        split at h
        · rename_i l1 l2 e1 e2
          obtain ⟨c, h⟩ := when_post h
          obtain ⟨xs, ha, r1⟩ := q.at_ ex e1
          obtain ⟨ys, hb, r2⟩ := q.at_ ey e2
          rw [lim_eq, r1.length, r2.length] at c
          exact .inr (.inr (.inr ⟨_, _, xs, ys, rfl, rfl, ha, hb, of_decide_eq_true c, post_alloc h q (r1.append r2)⟩))
        · exact False.elim h
  · exact False.elim h
theorem sub_cov (q : Sim K m H S) (rx : RV K m H d x) (ry : RV K m H e y) (h : Post K (RV K) m H E (binOp .sub d e S) Q) : rI0 (fun i j => .int (i - j)) x y H Q := by
  unfold binOp at h
  dsimp only at h
  split at h
  · cases rx; cases ry
    exact ⟨_, _, rfl, rfl, post_same h q (.int _)⟩
  · exact False.elim h
theorem fdiv_cov (q : Sim K m H S) (rx : RV K m H d x) (ry : RV K m H e y) (h : Post K (RV K) m H E (binOp .fdiv d e S) Q) : rI CDiv (fun i j => .int (i / j)) x y H Q := by
  unfold binOp at h
  dsimp only at h
  split at h
  · cases rx; cases ry
    obtain ⟨c, h⟩ := when_post h
    exact ⟨_, _, rfl, rfl, (show 0 < _ ∧ _ < 1073741824 from of_decide_eq_true c), post_same h q (.int _)⟩
  · exact False.elim h
theorem mod_cov (q : Sim K m H S) (rx : RV K m H d x) (ry : RV K m H e y) (h : Post K (RV K) m H E (binOp .mod d e S) Q) : rI (fun _ j => 0 < j) (fun i j => .int (i % j)) x y H Q := by
  unfold binOp at h
  dsimp only at h
  split at h
  · cases rx; cases ry
    obtain ⟨c, h⟩ := when_post h
    exact ⟨_, _, rfl, rfl, of_decide_eq_true c, post_same h q (.int _)⟩
  · exact False.elim h
theorem smallI_abs {i : Int} (h : smallI i = true) : i.natAbs < 2 ^ 64 := by
  have := of_decide_eq_true h
  omega
theorem pow_cov (q : Sim K m H S) (rx : RV K m H d x) (ry : RV K m H e y) (h : Post K (RV K) m H E (binOp .pow d e S) Q) : rI CPow (fun i j => .int (i ^ j.toNat)) x y H Q := by
  unfold binOp at h
  dsimp only at h
  split at h
  · cases rx; cases ry
    obtain ⟨c, h⟩ := when_post h
    rw [Bool.and_eq_true] at c
    have c1 := of_decide_eq_true c.1
    exact ⟨_, _, rfl, rfl, ⟨c1.1, c1.2, smallI_abs c.2⟩, post_same h q (.int _)⟩
  · exact False.elim h
def rMul' : R2 := fun x y H Q => rI CMul (fun i j => .int (i * j)) x y H Q ∨ rRep x y H Q
theorem op_mul' : OpR X (binaryOp .Mult) rMul' := op_mul.or op_rep
theorem mul_cov (q : Sim K m H S) (rx : RV K m H d x) (ry : RV K m H e y) (h : Post K (RV K) m H E (binOp .mul d e S) Q) : rMul' x y H Q := by
  unfold binOp at h
  dsimp only at h
  split at h
  · cases rx; cases ry
    obtain ⟨c, h⟩ := when_post h
    rw [Bool.or_eq_true] at c
    exact .inl ⟨_, _, rfl, rfl, c.imp of_decide_eq_true of_decide_eq_true, post_same h q (.int _)⟩
  · cases rx with
    | ref ex =>
      cases ry
      split at h
      · rename_i l1 e1
        obtain ⟨c, h⟩ := when_post h
        obtain ⟨xs, ha, r1⟩ := q.at_ ex e1
        have c1 := of_decide_eq_true c
        rw [lim_eq, r1.length] at c1
        exact .inr ⟨_, _, xs, rfl, rfl, ha, by omega, by omega, c1.1, post_alloc h q (r1.rep _)⟩
      · exact False.elim h
  · exact False.elim h

/-! ### comparisons -/
def rEqA (K : PySem.W.Frag) (n : Bool) : R2 := fun x y H Q => ∃ d e, Dp K H x d ∧ Dp K H y e ∧ d.canLay0 = true ∧ e.canLay0 = true ∧ min d.depth e.depth ≤ 90 ∧ Q (.bl (if n then !PyData.eqv d e else PyData.eqv d e)) H
theorem op_eqA (hu : X.A.units + 200 < cLine) : OpR X (compareOp .Eq) (rEqA X.K false) := by
  intro pins s σ H x y v u Q I rx ry h
  obtain ⟨d, e, hd, he, sd, se, dp, q⟩ := h
  obtain ⟨as, r1⟩ := Dp.reads I d x v hd rx
  obtain ⟨bs, r2⟩ := Dp.reads I e y u he ry
  exact SeqAt.compareEq_reads r1 r2 sd se (by omega) ⟨.bl _, H, I, rfl, q⟩
theorem op_neA (hu : X.A.units + 200 < cLine) : OpR X (compareOp .NotEq) (rEqA X.K true) := by
  intro pins s σ H x y v u Q I rx ry h
  obtain ⟨d, e, hd, he, sd, se, dp, q⟩ := h
  obtain ⟨as, r1⟩ := Dp.reads I d x v hd rx
  obtain ⟨bs, r2⟩ := Dp.reads I e y u he ry
  exact SeqAt.compareNe_reads r1 r2 sd se (by omega) ⟨.bl _, H, I, rfl, q⟩
theorem py_cov (q : Sim K m H S) (rx : RV K m H d x) (ry : RV K m H e y) {f : Bool → D} (h : Post K (RV K) m H E (pyEq d e S f) Q) :
    ∃ dd ee, Dp K H x dd ∧ Dp K H y ee ∧ dd.canLay0 = true ∧ ee.canLay0 = true ∧ min dd.depth ee.depth ≤ 90 ∧ Post K (RV K) m H E (.ok (f (PyData.eqv dd ee)) S) Q := by
  unfold pyEq at h
  split at h
  · rename_i a b h1 h2
    obtain ⟨c, h3⟩ := when_post h
    simp only [Bool.and_eq_true, decide_eq_true_eq] at c
    cases d <;> simp only [lsAt] at h1 <;> try (cases h1; done)
    cases e <;> simp only [lsAt] at h2 <;> try (cases h2; done)
    cases rx with
    | ref ex =>
      cases ry with
      | ref ey =>
        obtain ⟨xs, ha, ra⟩ := q.at_ ex h1
        obtain ⟨ys, hb, rb⟩ := q.at_ ey h2
        obtain ⟨d1, l1, n1⟩ := ra.dp c.1.1
        obtain ⟨d2, l2, n2⟩ := rb.dp c.1.2
        refine ⟨.list (toPys a), .list (toPys b), .lst (.of ha) d1, .lst (.of hb) d2, by simpa [PyData.canLay0] using l1, by simpa [PyData.canLay0] using l2, ?_, ?_⟩
        · simp only [PyData.depth, n1, n2]
          omega
        · rw [peqs_py a b c.1.1 c.1.2] at h3
          simpa only [PyData.eqv] using h3
  · obtain ⟨c, h2⟩ := when_post h
    simp only [Bool.and_eq_true, decide_eq_true_eq] at c
    obtain ⟨d1, l1, n1⟩ := rx.dp c.1.1
    obtain ⟨d2, l2, n2⟩ := ry.dp c.1.2
    rw [peq_py d e c.1.1 c.1.2] at h2
    exact ⟨_, _, d1, d2, l1, l2, by rw [n1, n2]; exact c.2, h2⟩
theorem eq_cov (q : Sim K m H S) (rx : RV K m H d x) (ry : RV K m H e y) (h : Post K (RV K) m H E (cmpOp .eq d e S) Q) : rEqA K false x y H Q := by
  obtain ⟨dd, ee, h1, h2, h3, h4, h5, h6⟩ := py_cov (f := .bl) q rx ry h
  exact ⟨dd, ee, h1, h2, h3, h4, h5, post_same h6 q (.bl _)⟩
theorem ne_cov (q : Sim K m H S) (rx : RV K m H d x) (ry : RV K m H e y) (h : Post K (RV K) m H E (cmpOp .ne d e S) Q) : rEqA K true x y H Q := by
  obtain ⟨dd, ee, h1, h2, h3, h4, h5, h6⟩ := py_cov (f := fun b => .bl (!b)) q rx ry h
  exact ⟨dd, ee, h1, h2, h3, h4, h5, post_same h6 q (.bl _)⟩
def rInA (K : PySem.W.Frag) (n : Bool) : R2 := fun x y H Q => ∃ d ds, Dp K H x d ∧ (Dp K H y (.list ds) ∨ Dp K H y (.tuple ds)) ∧ d.canLay0 = true ∧ PyData.canLayAll0 ds = true ∧ d.depth ≤ 60 ∧ Q (.bl (if n then !ds.any fun z => PyData.eqv z d else ds.any fun z => PyData.eqv z d)) H
theorem op_inA (hu : X.A.units + 200 < cLine) : OpR X (compareOp .In) (rInA X.K false) := by
  intro pins s σ H x y v u Q I rx ry h
  obtain ⟨d, ds, hd, he, sd, se, dp, q⟩ := h
  obtain ⟨as, r1⟩ := Dp.reads I d x v hd rx
  rcases he with he | he
  · obtain ⟨bs, r2⟩ := Dp.reads I (.list ds) y u he ry
    exact SeqAt.in_list_reads r2 r1 se sd (by omega) ⟨.bl _, H, I, rfl, q⟩
  · obtain ⟨bs, r2⟩ := Dp.reads I (.tuple ds) y u he ry
    exact SeqAt.in_tuple_reads r2 r1 se sd (by omega) ⟨.bl _, H, I, rfl, q⟩
theorem op_notinA (hu : X.A.units + 200 < cLine) : OpR X (compareOp .NotIn) (rInA X.K true) := by
  intro pins s σ H x y v u Q I rx ry h
  obtain ⟨d, ds, hd, he, sd, se, dp, q⟩ := h
  obtain ⟨as, r1⟩ := Dp.reads I d x v hd rx
  rcases he with he | he
  · obtain ⟨bs, r2⟩ := Dp.reads I (.list ds) y u he ry
    exact SeqAt.notIn_list_reads r2 r1 se sd (by omega) ⟨.bl _, H, I, rfl, q⟩
  · obtain ⟨bs, r2⟩ := Dp.reads I (.tuple ds) y u he ry
    exact SeqAt.notIn_tuple_reads r2 r1 se sd (by omega) ⟨.bl _, H, I, rfl, q⟩
theorem isIn_cov (q : Sim K m H S) (rx : RV K m H d x) (ry : RV K m H e y) {b : Bool} (h : isIn d e S = some b) : ∃ dd ds, Dp K H x dd ∧ (Dp K H y (.list ds) ∨ Dp K H y (.tuple ds)) ∧ dd.canLay0 = true ∧ PyData.canLayAll0 ds = true ∧ dd.depth ≤ 60 ∧ b = ds.any fun z => PyData.eqv z dd := by
  have fin : ∀ {l : List D} {xs : List V}, RVs K m H l xs → (if d.pure && D.pures l && decide (d.deep ≤ 60) then some (l.any fun z => peq z d) else none) = some b →
      Dp K H x (toPy d) ∧ DpAll K H xs (toPys l) ∧ (toPy d).canLay0 = true ∧ PyData.canLayAll0 (toPys l) = true ∧ (toPy d).depth ≤ 60 ∧ b = (toPys l).any fun z => PyData.eqv z (toPy d) := fun {l xs} rl h => by
    split at h
    · rename_i c
      simp only [Bool.and_eq_true, decide_eq_true_eq] at c
      obtain ⟨d1, l1, n1⟩ := rx.dp c.1.1
      obtain ⟨d2, l2, n2⟩ := rl.dp c.1.2
      refine ⟨d1, d2, l1, l2, by rw [n1]; exact c.2, ?_⟩
      rw [any_py c.1.1 l c.1.2]
      exact (Option.some.inj h).symm
    · cases h
  unfold isIn at h
  split at h
  · cases ry with
    | tup ty ry =>
      obtain ⟨a1, a2, a3, a4, a5, a6⟩ := fin ry h
      exact ⟨_, _, a1, .inr (.tup ty a2), a3, a4, a5, a6⟩
  · cases ry with
    | ref ey =>
      split at h
      · rename_i l e1
        obtain ⟨ys, hb, r2⟩ := q.at_ ey e1
        obtain ⟨a1, a2, a3, a4, a5, a6⟩ := fin r2 h
        exact ⟨_, _, a1, .inl (.lst (.of hb) a2), a3, a4, a5, a6⟩
      · cases h
  · cases h
/-- x in a dict -/
def rHasD (n : Bool) : R2 := fun x y H Q => ∃ a o, y = .ref a ∧ DGet H a x o ∧ Q (.bl (if n then !o.isSome else o.isSome)) H
theorem op_hasD (hu : X.A.units + 200 < cLine) : OpR X (compareOp .In) (rHasD false) := by
  intro pins s σ H x y v u Q I rx ry h
  obtain ⟨a, o, rfl, g, q⟩ := h
  cases ry
  exact d_in (by omega) I g rx fun s' I' => ⟨.bl _, H, I', rfl, q⟩
theorem op_hasntD (hu : X.A.units + 200 < cLine) : OpR X (compareOp .NotIn) (rHasD true) := by
  intro pins s σ H x y v u Q I rx ry h
  obtain ⟨a, o, rfl, g, q⟩ := h
  cases ry
  exact d_notIn (by omega) I g rx fun s' I' => ⟨.bl _, H, I', rfl, q⟩
theorem hasD_cov (q : Sim K m H S) (rx : RV K m H d x) (ry : RV K m H e y) {b : Bool} (h : hasD d e S = some b) : ∃ a o, y = .ref a ∧ DGet H a x o ∧ o.isSome = b := by
  unfold hasD at h
  split at h
  · cases ry with
    | ref ey =>
      split at h
      · rename_i l k h1 h2
        obtain ⟨kvs, e1, r1⟩ := q.dct_ ey h1
        cases h
        exact ⟨_, _, rfl, .inl ⟨kvs, k, e1, keyOf_rv rx h2, rfl⟩, r1.isSome⟩
      · cases h
  · cases h
theorem in_cov (q : Sim K m H S) (rx : RV K m H d x) (ry : RV K m H e y) (h : Post K (RV K) m H E (cmpOp .in_ d e S) Q) : rInA K false x y H Q ∨ rHasD false x y H Q := by
  unfold cmpOp at h
  dsimp only at h
  split at h
  · rename_i b hb
    obtain ⟨dd, ds, h1, h2, h3, h4, h5, h6⟩ := isIn_cov q rx ry hb
    exact .inl ⟨dd, ds, h1, h2, h3, h4, h5, by rw [if_neg (by decide), ← h6]; exact post_same h q (.bl _)⟩
  · split at h
    · rename_i b hb
      obtain ⟨a, o, h1, h2, h3⟩ := hasD_cov q rx ry hb
      exact .inr ⟨a, o, h1, h2, by rw [if_neg (by decide), h3]; exact post_same h q (.bl _)⟩
    · exact False.elim h
theorem notin_cov (q : Sim K m H S) (rx : RV K m H d x) (ry : RV K m H e y) (h : Post K (RV K) m H E (cmpOp .notin d e S) Q) : rInA K true x y H Q ∨ rHasD true x y H Q := by
  unfold cmpOp at h
  dsimp only at h
  split at h
  · rename_i b hb
    obtain ⟨dd, ds, h1, h2, h3, h4, h5, h6⟩ := isIn_cov q rx ry hb
    exact .inl ⟨dd, ds, h1, h2, h3, h4, h5, by rw [if_pos rfl, ← h6]; exact post_same h q (.bl _)⟩
  · split at h
    · rename_i b hb
      obtain ⟨a, o, h1, h2, h3⟩ := hasD_cov q rx ry hb
      exact .inr ⟨a, o, h1, h2, by rw [if_pos rfl, h3]; exact post_same h q (.bl _)⟩
    · exact False.elim h
theorem lt_cov (q : Sim K m H S) (rx : RV K m H d x) (ry : RV K m H e y) (h : Post K (RV K) m H E (cmpOp .lt d e S) Q) : rI0 (fun i j => .bl (decide (i < j))) x y H Q := by
  unfold cmpOp at h
  dsimp only at h
  split at h
  · cases rx; cases ry
    exact ⟨_, _, rfl, rfl, post_same h q (.bl _)⟩
  · exact False.elim h
theorem gt_cov (q : Sim K m H S) (rx : RV K m H d x) (ry : RV K m H e y) (h : Post K (RV K) m H E (cmpOp .gt d e S) Q) : rI0 (fun i j => .bl (decide (j < i))) x y H Q := by
  unfold cmpOp at h
  dsimp only at h
  split at h
  · cases rx; cases ry
    exact ⟨_, _, rfl, rfl, post_same h q (.bl _)⟩
  · exact False.elim h
theorem ge_cov (q : Sim K m H S) (rx : RV K m H d x) (ry : RV K m H e y) (h : Post K (RV K) m H E (cmpOp .ge d e S) Q) : rI0 (fun i j => .bl (decide (j ≤ i))) x y H Q := by
  unfold cmpOp at h
  dsimp only at h
  split at h
  · cases rx; cases ry
    exact ⟨_, _, rfl, rfl, post_same h q (.bl _)⟩
  · exact False.elim h
def rLe' : R2 := fun x y H Q => rI0 (fun i j => .bl (decide (i ≤ j))) x y H Q ∨ ∃ i j, x = .str i ∧ y = .str j ∧ Q (.bl (!decide (j.cps.toList < i.cps.toList))) H
theorem op_le' : OpR X (compareOp .LtE) rLe' := op_le.or op_le_str
theorem le_cov (q : Sim K m H S) (rx : RV K m H d x) (ry : RV K m H e y) (h : Post K (RV K) m H E (cmpOp .le d e S) Q) : rLe' x y H Q := by
  unfold cmpOp at h
  dsimp only at h
  split at h
  · cases rx; cases ry
    exact .inl ⟨_, _, rfl, rfl, post_same h q (.bl _)⟩
  · cases rx with
    | str hx =>
      cases ry with
      | str hy =>
        refine .inr ⟨_, _, rfl, rfl, ?_⟩
        rename_i a b
        have e : (!decide (b.cps.toList < a.cps.toList)) = decide (a.cps.toList ≤ b.cps.toList) := by
          rw [← decide_not]
          exact decide_eq_decide.mpr List.not_lt
        rw [e]
        exact post_same h q (.bl _)
  · exact False.elim h
theorem RV.non_iff (r : RV K m H d x) : decide (x = .non) = decide (d = .non) := by
  cases r <;> simp
def rIsTr : R2 := fun x y H Q => ∃ b c, x = .bl b ∧ y = .bl c ∧ Q (.bl (b == c)) H
theorem op_isTr : OpR X (compareOp .Is) rIsTr := by
  intro pins s σ H x y v u Q I rx ry h
  obtain ⟨b, c, rfl, rfl, q⟩ := h
  cases rx
  cases ry
  exact is_bool ⟨.bl _, H, I, rfl, q⟩
theorem is_cov (q : Sim K m H S) (rx : RV K m H d x) (ry : RV K m H e y) (h : Post K (RV K) m H E (cmpOp .is d e S) Q) : (y = .non ∧ Q (.bl (decide (x = .non))) H) ∨ rIsTr x y H Q := by
  unfold cmpOp at h
  dsimp only at h
  split at h
  · cases ry
    exact .inl ⟨rfl, by rw [rx.non_iff]; exact post_same h q (.bl _)⟩
  · cases ry
    split at h
    · cases rx
      exact .inr ⟨_, _, rfl, rfl, post_same h q (.bl _)⟩
    · exact False.elim h
  · exact False.elim h
theorem isnot_cov (q : Sim K m H S) (rx : RV K m H d x) (ry : RV K m H e y) (h : Post K (RV K) m H E (cmpOp .isnot d e S) Q) : y = .non ∧ Q (.bl (!decide (x = .non))) H := by
  unfold cmpOp at h
  dsimp only at h
  split at h
  · cases ry
    exact ⟨rfl, by rw [rx.non_iff]; exact post_same h q (.bl _)⟩
  · exact False.elim h
end
end SB
end

section
set_option maxHeartbeats 2000000
namespace SB
open PySem PySem.Spec PyProof.Rows L2

section
variable {X : Cx} {K : PySem.W.Frag} {m : List Addr} {H : Hp} {S : Sto} {E : XW} {Q : VK} {d e : D} {x y : V}
theorem ixN_eq (n : Nat) (i : Int) : SB.ixN n i = L2.ixN n i := rfl
theorem atI_rv {l : List D} {xs : List V} (r : RVs K m H l xs) {i : Int} {d : D} (h : SB.atI l i = some d) : ∃ v, L2.atI xs i = some v ∧ RV K m H d v := by
  unfold SB.atI at h
  rw [ixN_eq, r.length] at h
  unfold L2.atI
  split at h
  · rename_i j hj
    obtain ⟨v, e, q⟩ := r.get h
    exact ⟨v, by rw [hj]; exact e, q⟩
  · cases h
theorem atI_ok {z : Str} (h : PyData.strOk z = true) {i : Int} {c : Nat} (e : SB.atI z.cps.toList i = some c) : L2.atI z.cps.toList i = some c ∧ PyData.strOk ⟨#[c]⟩ = true := by
  unfold SB.atI at e
  rw [ixN_eq] at e
  split at e
  · rename_i j hj
    refine ⟨by unfold L2.atI; rw [hj]; exact e, ?_⟩
    unfold PyData.strOk at h ⊢
    rw [← Array.all_toList] at h
    have hm := List.all_eq_true.mp h c (List.mem_of_getElem? e)
    simpa using hm
  · cases e
theorem sq_cov (q : Sim K m H S) (rx : RV K m H d x) (ry : RV K m H e y) (h : Post K (RV K) m H E (sqOp d e S) Q) : rIx K x y H Q := by
  unfold sqOp at h
  split at h
  · cases rx with
    | tup tx rx =>
      cases ry
      split at h
      · rename_i d' e1
        obtain ⟨v, e2, r⟩ := atI_rv rx e1
        exact .inr (.inl ⟨_, _, _, v, rfl, rfl, tx, e2, post_same h q r⟩)
      · exact False.elim h
  · cases rx with
    | lis tx rx =>
      cases ry
      split at h
      · rename_i d' e1
        obtain ⟨v, e2, r⟩ := atI_rv rx e1
        exact .inl ⟨_, _, _, v, rfl, rfl, tx.sq, e2, post_same h q r⟩
      · exact False.elim h
  · cases rx with
    | ref ex =>
      cases ry
      split at h
      · rename_i l e0
        obtain ⟨xs, ha, r1⟩ := q.at_ ex e0
        split at h
        · rename_i d' e1
          obtain ⟨v, e2, r⟩ := atI_rv r1 e1
          exact .inl ⟨_, _, _, v, rfl, rfl, .of ha, e2, post_same h q r⟩
        · exact False.elim h
      · exact False.elim h
  · cases rx with
    | str hx =>
      cases ry
      obtain ⟨c, h⟩ := when_post h
      rw [lim_eq] at c
      split at h
      · rename_i c' e1
        obtain ⟨e2, ok⟩ := atI_ok hx e1
        exact .inr (.inr ⟨_, _, _, rfl, rfl, of_decide_eq_true c, e2, post_same h q (.str ok)⟩)
      · exact False.elim h
  · exact False.elim h
def rSl' (K : PySem.W.Frag) : V → Option Int → Option Int → Hp → VK → Prop := fun x lo hi H Q => rSlL K x lo hi H Q ∨ rSlA K x lo hi H Q
/-- d[y] -/
def rIxDct : R2 := fun x y H Q => ∃ a v, x = .ref a ∧ DGet H a y (some v) ∧ Q v H
theorem ix_dct (hu : X.A.units + 200 < cLine) : IxR X rIxDct := by
  intro value slice pins s σ H x y v u Q I rx ry h hs
  obtain ⟨a, z, rfl, g, q⟩ := h
  cases rx
  exact tail_any (dict_typeIs I g) PySem.F.slot_dict_getitem.lookup (d_getItem (by omega) I g ry fun w' s' I' r => ⟨z, H, I', r, q⟩) hs
theorem idx_cov (q : Sim K m H S) (rx : RV K m H d x) (ry : RV K m H e y) (h : Post K (RV K) m H E (idxOp d e S) Q) : rIx K x y H Q ∨ rIxDct x y H Q := by
  unfold idxOp at h
  split at h
  · refine .inr ?_
    unfold dgetOp at h
    split at h
    · cases rx with
      | ref ex =>
        split at h
        · rename_i l k h1 h2
          obtain ⟨kvs, e1, r1⟩ := q.dct_ ex h1
          split at h
          · rename_i d' h3
            obtain ⟨v, e2, r2⟩ := r1.some_ h3
            exact ⟨_, v, rfl, .inl ⟨kvs, k, e1, keyOf_rv ry h2, e2.symm⟩, post_same h q r2⟩
          · exact False.elim h
        · exact False.elim h
    · exact False.elim h
  · exact .inl (sq_cov q rx ry h)
theorem sl_any : SlR X (rSl' X.K) := sl_list.or sl_tupA
theorem sIx_eq (n d : Nat) (o : Option Int) : SB.sIx n d o = HT.sIx n d o := by
  cases o <;> rfl
theorem cut_rv {l : List D} {xs : List V} (r : RVs K m H l xs) (lo hi : Option Int) : RVs K m H (cutL l lo hi) (cutV xs lo hi) := by
  unfold cutL cutV
  rw [sIx_eq, sIx_eq, r.length]
  exact (r.drop _).take _
theorem slc_cov (q : Sim K m H S) (rx : RV K m H d x) {lo hi : Option Int} (h : Post K (RV K) m H E (slcOp d lo hi S) Q) : rSl' K x lo hi H Q := by
  unfold slcOp at h
  split at h
  · cases rx with
    | tup tx rx =>
      rename_i a xs
      refine .inr ⟨a, xs, rfl, tx, fun w => ?_, fun _ => post_tup h q (cut_rv rx lo hi)⟩
      have e : cutV xs lo hi = xs := by
        unfold cutV
        rw [w.1, w.2]
        simp
      have r' := cut_rv rx lo hi
      rw [e] at r'
      exact post_same h q (.tup tx r')
  · cases rx with
    | ref ex =>
      split at h
      · rename_i l e0
        obtain ⟨xs, ha, r1⟩ := q.at_ ex e0
        exact .inl ⟨_, xs, rfl, .of ha, post_alloc h q (cut_rv r1 lo hi)⟩
      · exact False.elim h
  · exact False.elim h
theorem RVs.emp {l : List D} {xs : List V} (r : RVs K m H l xs) : l.isEmpty = xs.isEmpty := by
  cases r <;> rfl
theorem truth_cov (q : Sim K m H S) (rx : RV K m H d x) {k : Bool} (h : truth d S = some k) : TruV K x H k := by
  unfold truth at h
  split at h
  · cases rx; cases h; rfl
  · cases rx; cases h; rfl
  · cases rx; cases h; rfl
  · cases rx
    split at h
    · rename_i c
      cases h
      rw [lim_eq] at c
      exact ⟨of_decide_eq_true c, rfl⟩
    · cases h
  · cases rx with
    | tup tx rx =>
      cases h
      exact .inr (.inl ⟨_, tx, by rw [rx.emp]⟩)
  · cases rx with
    | ref ex =>
      split at h
      · rename_i l e0
        obtain ⟨xs, ha, r1⟩ := q.at_ ex e0
        cases h
        exact .inl ⟨_, .of ha, by rw [r1.emp]⟩
      · cases h
  · cases h
  · cases h

/-! ### isinstance -/
def tyN : Ty → String
  | .int => "int" | .str => "str" | .tuple => "tuple" | .bool => "bool" | .list => "list"
theorem SqT.tyx {a : Addr} {xs : List V} (h : SqT K H a xs) : TyX K H (.ref a) (.type "tuple") := by
  rcases h with (h | ⟨o, h⟩) | ⟨o, its, n, h, c, _⟩
  · exact .base (.tup h)
  · exact .fTuple h
  · exact .kTuple h c
theorem isi_cov {t : Ty} (rx : RV K m H d x) {b : Bool} (h : isTy t d = some b) : ∃ ty, TyX K H x (.type ty) ∧ kitB ty (tyN t) = some b := by
  unfold isTy at h
  cases rx with
  | non => refine ⟨"NoneType", .base .non, ?_⟩; cases t <;> simp at h <;> subst h <;> decide +kernel
  | bl c => refine ⟨"bool", .base (.bl c), ?_⟩; cases t <;> simp at h <;> subst h <;> decide +kernel
  | int c => refine ⟨"int", .base (.int c), ?_⟩; cases t <;> simp at h <;> subst h <;> decide +kernel
  | str c => refine ⟨"str", .base (.str _), ?_⟩; cases t <;> simp at h <;> subst h <;> decide +kernel
  | tup tx r => refine ⟨"tuple", SqT.tyx tx, ?_⟩; cases t <;> simp at h <;> subst h <;> decide +kernel
  | ref _ => cases t <;> simp at h
  | fn _ => cases t <;> simp at h
  | lis _ _ => cases t <;> simp at h
/-! ### built-ins -/
def bnN : Bn → String
  | .len => "len" | .abs => "abs" | .min => "min" | .max => "max" | .ord => "ord" | .tuple => "tuple" | .list => "list" | .int_ => "int"
abbrev RB := List V → Hp → VK → Prop
def rLenA (K : PySem.W.Frag) : RB := fun xs H Q => ∃ x n, xs = [x] ∧ LenV K x H n ∧ Q (.int n) H
theorem vs1 {xs : List V} {d : D} (r : RVs K m H [d] xs) : ∃ x, xs = [x] ∧ RV K m H d x := by
  cases r with
  | cons a t => cases t; exact ⟨_, rfl, a⟩
theorem vs2 {xs : List V} {d e : D} (r : RVs K m H [d, e] xs) : ∃ x y, xs = [x, y] ∧ RV K m H d x ∧ RV K m H e y := by
  cases r with
  | cons a t =>
    obtain ⟨y, rfl, b⟩ := vs1 t
    exact ⟨_, _, rfl, a, b⟩
theorem one_of {ds : List D} {f : D → R D} {E : XW} {Q : VK} (h : Post K (RV K) m H E (match ds with | [d] => f d | _ => .err) Q) : ∃ d, ds = [d] ∧ Post K (RV K) m H E (f d) Q := by
  match ds, h with
  | [d], h => exact ⟨d, rfl, h⟩
  | [], h => exact h.elim
  | _ :: _ :: _, h => exact h.elim
def rLenDct : List V → Hp → VK → Prop := fun xs H Q => ∃ a kvs, xs = [V.ref a] ∧ Rd H a (.dK kvs) ∧ Q (.int kvs.length) H
theorem call_lenA : CallR X (.builtin "len") (fun xs H Q => rLenA X.K xs H Q ∨ rLenDct xs H Q) := by
  intro pins s σ H xs us Q I r h
  rcases h with h | h
  · exact call_len pins s σ H xs us Q I r h
  · obtain ⟨a, kvs, rfl, ha, q⟩ := h
    rw [Vals.ref1 r]
    exact d_len I ha fun t s' I' => ⟨.int kvs.length, H, I', ⟨t, rfl⟩, q⟩
theorem len_cov (q : Sim K m H S) {ds : List D} {xs : List V} (r : RVs K m H ds xs) (h : Post K (RV K) m H E (bltOp .len ds S) Q) : rLenA K xs H Q ∨ rLenDct xs H Q := by
  unfold bltOp at h
  split at h <;> first | exact h.elim | skip
  · obtain ⟨x, rfl, rx⟩ := vs1 r
    cases rx with
    | tup tx rx => exact .inl ⟨_, _, rfl, .inr ⟨_, tx, rfl⟩, by rw [← rx.length]; exact post_same h q (.int _)⟩
  · obtain ⟨x, rfl, rx⟩ := vs1 r
    cases rx with
    | lis tx rx => exact .inl ⟨_, _, rfl, .inl ⟨_, tx.sq, rfl⟩, by rw [← rx.length]; exact post_same h q (.int _)⟩
  · obtain ⟨x, rfl, rx⟩ := vs1 r
    cases rx
    obtain ⟨c, h⟩ := when_post h
    rw [lim_eq] at c
    exact .inl ⟨_, _, rfl, ⟨of_decide_eq_true c, rfl⟩, post_same h q (.int _)⟩
  · obtain ⟨x, rfl, rx⟩ := vs1 r
    cases rx with
    | ref ex =>
      split at h
      · rename_i l e0
        obtain ⟨xs, ha, r1⟩ := q.at_ ex e0
        exact .inl ⟨_, _, rfl, .inl ⟨_, .of ha, rfl⟩, by rw [← r1.length]; exact post_same h q (.int _)⟩
      · split at h
        · rename_i l e1
          obtain ⟨kvs, ha, r1⟩ := q.dct_ ex e1
          exact .inr ⟨_, kvs, rfl, ha, by rw [← r1.length]; exact post_same h q (.int _)⟩
        · exact False.elim h
  all_goals (rename_i hf; simp_all)
theorem abs_cov (q : Sim K m H S) {ds : List D} {xs : List V} (r : RVs K m H ds xs) (h : Post K (RV K) m H E (bltOp .abs ds S) Q) : ∃ i, xs = [.int i] ∧ Q (.int (if i < 0 then -i else i)) H := by
  unfold bltOp at h
  split at h <;> first | exact h.elim | (simp_all; done) | skip
  · obtain ⟨x, rfl, rx⟩ := vs1 r
    cases rx
    exact ⟨_, rfl, post_same h q (.int _)⟩
theorem min_cov (q : Sim K m H S) {ds : List D} {xs : List V} (r : RVs K m H ds xs) (h : Post K (RV K) m H E (bltOp .min ds S) Q) : ∃ i j, xs = [.int i, .int j] ∧ Q (.int (if j < i then j else i)) H := by
  unfold bltOp at h
  split at h <;> first | exact h.elim | (simp_all; done) | skip
  · obtain ⟨x, y, rfl, rx, ry⟩ := vs2 r
    cases rx; cases ry
    exact ⟨_, _, rfl, post_same h q (.int _)⟩
theorem max_cov (q : Sim K m H S) {ds : List D} {xs : List V} (r : RVs K m H ds xs) (h : Post K (RV K) m H E (bltOp .max ds S) Q) : ∃ i j, xs = [.int i, .int j] ∧ Q (.int (if j > i then j else i)) H := by
  unfold bltOp at h
  split at h <;> first | exact h.elim | (simp_all; done) | skip
  · obtain ⟨x, y, rfl, rx, ry⟩ := vs2 r
    cases rx; cases ry
    exact ⟨_, _, rfl, post_same h q (.int _)⟩
theorem ord_cov (q : Sim K m H S) {ds : List D} {xs : List V} (r : RVs K m H ds xs) (h : Post K (RV K) m H E (bltOp .ord ds S) Q) : ∃ z, xs = [.str z] ∧ z.length = 1 ∧ Q (.int (z.cps.getD 0 0 : Nat)) H := by
  unfold bltOp at h
  split at h <;> first | exact h.elim | (simp_all; done) | skip
  · obtain ⟨x, rfl, rx⟩ := vs1 r
    cases rx
    obtain ⟨c, h⟩ := when_post h
    exact ⟨_, rfl, of_decide_eq_true c, post_same h q (.int _)⟩
theorem tuple_cov (q : Sim K m H S) {ds : List D} {xs : List V} (r : RVs K m H ds xs) (h : Post K (RV K) m H E (bltOp .tuple ds S) Q) :
    ∃ p ys, xs = [.ref p] ∧ ((SqL K H p ys ∧ ∀ l, H l = none → Q (.ref l) (upd H l (.tup ys))) ∨ (SqT K H p ys ∧ Q (.ref p) H)) := by
  unfold bltOp at h
  split at h <;> first | exact h.elim | (simp_all; done) | skip
  · obtain ⟨x, rfl, rx⟩ := vs1 r
    cases rx with
    | tup tx rx => exact ⟨_, _, rfl, .inr ⟨tx, post_same h q (.tup tx rx)⟩⟩
  · obtain ⟨x, rfl, rx⟩ := vs1 r
    cases rx with
    | ref ex =>
      split at h
      · rename_i l e0
        obtain ⟨xs, ha, r1⟩ := q.at_ ex e0
        exact ⟨_, _, rfl, .inl ⟨.of ha, post_tup h q r1⟩⟩
      · exact False.elim h
theorem list_cov (q : Sim K m H S) {ds : List D} {xs : List V} (r : RVs K m H ds xs) (h : Post K (RV K) m H E (bltOp .list ds S) Q) :
    ∃ p ys, xs = [.ref p] ∧ (SqL K H p ys ∨ SqT K H p ys) ∧ ∀ l, H l = none → Q (.ref l) (upd H l (.lst ys)) := by
  unfold bltOp at h
  split at h <;> first | exact h.elim | (simp_all; done) | skip
  · obtain ⟨x, rfl, rx⟩ := vs1 r
    cases rx with
    | tup tx rx => exact ⟨_, _, rfl, .inr tx, post_alloc h q rx⟩
  · obtain ⟨x, rfl, rx⟩ := vs1 r
    cases rx with
    | ref ex =>
      split at h
      · rename_i l e0
        obtain ⟨xs, ha, r1⟩ := q.at_ ex e0
        exact ⟨_, _, rfl, .inl (.of ha), post_alloc h q r1⟩
      · exact False.elim h
theorem int_cov (q : Sim K m H S) {ds : List D} {xs : List V} (r : RVs K m H ds xs) (h : Post K (RV K) m H E (bltOp .int_ ds S) Q) : (∃ i, xs = [.int i] ∧ Q (.int i) H) ∨ ∃ k, xs = [.bl k] ∧ Q (.int (if k then 1 else 0)) H := by
  unfold bltOp at h
  split at h <;> first | exact h.elim | (simp_all; done) | skip
  · obtain ⟨x, rfl, rx⟩ := vs1 r
    cases rx
    exact .inl ⟨_, rfl, post_same h q (.int _)⟩
  · obtain ⟨x, rfl, rx⟩ := vs1 r
    cases rx
    exact .inr ⟨_, rfl, post_same h q (.int _)⟩
/-! ### methods -/
theorem append_cov (q : Sim K m H S) (rx : RV K m H d x) (ry : RV K m H e y) (h : Post K (RV K) m H E (metOp .append d e S) Q) : rAppend x [y] H Q := by
  unfold metOp at h
  dsimp only at h
  split at h
  · cases rx with
    | ref ex =>
      split at h
      · rename_i p a l e0
        obtain ⟨c, h⟩ := when_post h
        obtain ⟨xs, ha, r1⟩ := q.ob _ _ _ ex e0
        rw [lim_eq, r1.length] at c
        refine ⟨_, xs, y, rfl, rfl, ha, of_decide_eq_true c, ?_⟩
        exact h _ m _ (.write ex (nf_lst ha)) (q.write ex (nf_lst ha) (r1.append (.cons ry .nil))) .non
      · exact False.elim h
  · exact False.elim h
theorem allStr_rv : ∀ {l : List D} {xs : List V} {r : List Str}, allStr l = some r → RVs K m H l xs → xs = r.map V.str ∧ ∀ z ∈ r, PyData.strOk z = true
  | _, _, _, h, .nil => by
    cases h
    exact ⟨rfl, fun _ h => nomatch h⟩
  | d :: l, _, _, h, .cons a t => by
    cases a <;> simp only [allStr] at h <;> try (cases h; done)
    rename_i hz
    split at h
    · rename_i r' e
      cases h
      obtain ⟨e1, ok⟩ := allStr_rv e t
      refine ⟨by rw [e1]; rfl, fun z hm => ?_⟩
      rcases List.mem_cons.mp hm with e | hm
      · rw [e]; exact hz
      · exact ok z hm
    · cases h
theorem strOk_join {a : Str} (ha : PyData.strOk a = true) : ∀ {r : List Str}, (∀ z ∈ r, PyData.strOk z = true) → PyData.strOk (Str.join a r) = true
  | [], _ => (by simp [Str.join, PyData.strOk, Str.empty])
  | [x], h => h x (List.mem_singleton.mpr rfl)
  | x :: y :: r, h => by
    show PyData.strOk (x ++ a ++ Str.join a (y :: r)) = true
    exact strOk_app (strOk_app (h x (List.mem_cons_self ..)) ha) (strOk_join ha fun z hz => h z (List.mem_cons_of_mem _ hz))
theorem join_cov (q : Sim K m H S) (rx : RV K m H d x) (ry : RV K m H e y) (h : Post K (RV K) m H E (metOp .join d e S) Q) : ∃ a p, ∃ ys : List Str, x = .str a ∧ y = .ref p ∧ (SqL K H p (ys.map V.str) ∨ SqT K H p (ys.map V.str)) ∧
    (ys.map (·.length)).sum + ys.length * a.length ≤ 16777216 ∧ Q (.str (Txt.join a ys)) H := by
  unfold metOp at h
  dsimp only at h
  split at h
  · cases rx with
    | str hx =>
      cases ry with
      | ref ey =>
        split at h
        · rename_i l e0
          obtain ⟨xs, ha, r1⟩ := q.at_ ey e0
          split at h
          · rename_i r e1
            obtain ⟨c, h⟩ := when_post h
            obtain ⟨e2, ok⟩ := allStr_rv e1 r1
            refine ⟨_, _, r, rfl, rfl, .inl ?_, of_decide_eq_true c, ?_⟩
            · rw [← e2]; exact .of ha
            · rw [TL.join_eq]; exact post_same h q (.str (strOk_join hx ok))
          · exact False.elim h
        · exact False.elim h
  · exact False.elim h
end
end SB
end

section
set_option maxHeartbeats 2000000
namespace SB
open PySem PySem.Spec PyProof.Rows L2

/-! ### the text against the small language -/
def visB (sc : Scope) (x : Str) : Bool := match sc.names.lookup x with
  | some .local => true
  | some .cell => true
  | some .free => true
  | _ => false
def locB (sc : Scope) (x : Str) : Bool := match sc.names.lookup x with
  | some .local => true
  | some .cell => true
  | _ => false
def glB (sc : Scope) (x : Str) : Bool := match sc.names.lookup x with
  | some .globalImplicit => true
  | _ => false
def okN (x : Str) : Bool := !(x == ("__debug__" : Str)) && (!(x == ("__classdict__" : Str)) && !(x == ("__name__" : Str)))
def plainX : Expr → Bool
  | .Starred .. => false
  | .Slice .. => false
  | .Set .. => false
  | _ => true
def noComp : Expr → Bool
  | .ListComp .. => false
  | .SetComp .. => false
  | .DictComp .. => false
  | _ => true
def noCall : Expr → Bool
  | .Call .. => false
  | _ => true
def bopE : Bop → Operator
  | .add => .Add | .sub => .Sub | .mul => .Mult | .fdiv => .FloorDiv | .mod => .Mod | .pow => .Pow
def copE : Cop → CmpOp
  | .eq => .Eq | .ne => .NotEq | .lt => .Lt | .le => .LtE | .gt => .Gt | .ge => .GtE | .is => .Is | .isnot => .IsNot | .in_ => .In | .notin => .NotIn
def bnS (f : Bn) : Str := Str.ofString (bnN f)
def mnN : Mn → String
  | .append => "append" | .join => "join"
def tyS (t : Ty) : Str := Str.ofString (tyN t)
def ownOf (N : List Str) (tg : List Nat) : List (Str × Nat) := tg.map fun i => (N.getD i Str.empty, i)
def mtNames (N : List Str) (sc : Scope) : List Nat → List Expr → Bool
  | [], [] => true
  | i :: is, .Name x _ :: es => decide (N[i]? = some x) && locB sc x && mtNames N sc is es
  | _, _ => false
def mtTg (N : List Str) (sc : Scope) (tg : List Nat) (one : Bool) : Expr → Bool
  | .Name x _ => one && (match tg with
    | [i] => decide (N[i]? = some x) && locB sc x
    | _ => false)
  | .Tuple es _ _ => !one && mtNames N sc tg es
  | _ => false
section
variable {F : Type} (nm : F → Str) (cs : List (Str × D)) (N : List Str)
mutual
def mtE (sc : Scope) : Ex F → Expr → Bool
  | .non, .Constant .none _ _ => true
  | .bl b, .Constant (.bool c) _ _ => decide (b = c)
  | .int i, .Constant (.int j) _ _ => decide (i = j)
  | .str z, .Constant (.str y) _ _ => decide (z = y) && PyData.strOk z
  | .var i, .Name x _ => decide (N[i]? = some x) && (visB sc x && okN x)
  | .con x d, .Name y _ => decide (x = y) && (glB sc x && (okN x && decide ((x, d) ∈ cs)))
  | .bin o a b, .BinOp ea op eb _ => decide (bopE o = op) && (mtE sc a ea && mtE sc b eb)
  | .neg a, .UnaryOp .USub ea _ => mtE sc a ea
  | .cmp o a b, .Compare ea [op] [eb] _ => decide (copE o = op) && (plainX eb && (mtE sc a ea && mtE sc b eb))
  | .cm2 o p a b c, .Compare ea [op, oq] [eb, ec] _ => decide (copE o = op) && (decide (copE p = oq) && (plainX ec && (mtE sc a ea && (mtE sc b eb && mtE sc c ec))))
  | .cm3 o p q a b c d, .Compare ea [op, oq, or] [eb, ec, ed] _ => decide (copE o = op) && (decide (copE p = oq) && (decide (copE q = or) && (plainX ed && (mtE sc a ea && (mtE sc b eb && (mtE sc c ec && mtE sc d ed))))))
  | .and a b, .BoolOp .And (e1 :: e2 :: r) pos => mtE sc a e1 && (match r with
    | [] => mtE sc b e2
    | r => mtE sc b (.BoolOp .And (e2 :: r) pos))
  | .or a b, .BoolOp .Or (e1 :: e2 :: r) pos => mtE sc a e1 && (match r with
    | [] => mtE sc b e2
    | r => mtE sc b (.BoolOp .Or (e2 :: r) pos))
  | .not a, .UnaryOp .Not ea _ => mtE sc a ea
  | .ite c a b, .IfExp ec ea eb _ => mtE sc c ec && (mtE sc a ea && mtE sc b eb)
  | .tup xs, .Tuple es _ _ => mtEs sc xs es
  | .lst xs, .List es _ => mtEs sc xs es
  | .idx a i, .Subscript ea ei _ => plainX ei && (mtE sc a ea && mtE sc i ei)
  | .slc a lo hi, .Subscript ea (.Slice l h none _) _ => mtE sc a ea && (mtO sc lo l && mtO sc hi h)
  | .call f xs, .Call (.Name x _) (e :: es) [] _ => decide (x = nm f) && (glB sc x && (okN x && mtEs sc xs (e :: es)))
  | .blt f xs, .Call (.Name x _) (e :: es) [] _ => decide (x = bnS f) && (glB sc x && (okN x && mtEs sc xs (e :: es)))
  | .met m o y, .Call (.Attribute eo x apos) [e] [] pos => decide (x = Str.ofString (mnN m)) && (noCall eo && (apos.endLine == pos.line && (plainX e && (mtE sc o eo && mtE sc y e))))
  | .dnew, .Dict [] [] _ => true
  | .sset y, .Call (.Name x _) [.Call (.Name x2 _) [e] [] _] [] _ => decide (x = Str.ofString "sorted") && (glB sc x && (decide (x2 = Str.ofString "set") && (glB sc x2 && (plainX e && mtE sc y e))))
  | .isi a t, .Call (.Name x _) [e, .Name y _] [] _ => decide (x = Str.ofString "isinstance") && (glB sc x && (decide (y = tyS t) && (glB sc y && (plainX e && mtE sc a e))))
  | .lc tg one x it c, .ListComp elt [⟨te, iter, ifs, z⟩] scope _ => decide (z = 0) && (blkC N sc scope (ownOf N tg) && (mtTg N scope tg one te && (mtI sc it iter && (mtE scope x elt && (match c, ifs with
    | .none, [] => true
    | .some t, [e] => mtE scope t e
    | _, _ => false)))))
  | _, _ => false
def mtEs (sc : Scope) : Exs F → List Expr → Bool
  | .nil, [] => true
  | .cons x xs, e :: es => plainX e && (mtE sc x e && mtEs sc xs es)
  | _, _ => false
def mtO (sc : Scope) : OEx F → Option Expr → Bool
  | .none, none => true
  | .some x, some e => mtE sc x e
  | _, _ => false
def mtI (sc : Scope) : It F → Expr → Bool
  | .ex x, e => plainX e && mtE sc x e
  | .rng1 a, .Call (.Name x _) [e] [] _ => decide (x = Str.ofString "range") && (glB sc x && (plainX e && mtE sc a e))
  | .rng2 a b, .Call (.Name x _) [e, e2] [] _ => decide (x = Str.ofString "range") && (glB sc x && (plainX e && (plainX e2 && (mtE sc a e && mtE sc b e2))))
  | _, _ => false
end
end
end SB
end

section
set_option maxHeartbeats 4000000
namespace SB
open PySem PySem.Spec PyProof.Rows L2
section
variable {F : Type} {nm : F → Str} {cs : List (Str × D)} {N : List Str} {sc : Scope} {e : Expr}
theorem inv_non (h : mtE nm cs N sc .non e = true) : ∃ j p, e = .Constant .none j p := by
  cases e with
  | Constant v j p => cases v <;> simp [mtE] at h; exact ⟨_, _, rfl⟩
  | _ => simp [mtE] at h
theorem inv_bl {b : Bool} (h : mtE nm cs N sc (.bl b) e = true) : ∃ j p, e = .Constant (.bool b) j p := by
  cases e with
  | Constant v j p => cases v <;> simp [mtE] at h; subst h; exact ⟨_, _, rfl⟩
  | _ => simp [mtE] at h
theorem inv_int {b : Int} (h : mtE nm cs N sc (.int b) e = true) : ∃ j p, e = .Constant (.int b) j p := by
  cases e with
  | Constant v j p => cases v <;> simp [mtE] at h; subst h; exact ⟨_, _, rfl⟩
  | _ => simp [mtE] at h
theorem inv_str {b : Str} (h : mtE nm cs N sc (.str b) e = true) : (∃ j p, e = .Constant (.str b) j p) ∧ PyData.strOk b = true := by
  cases e with
  | Constant v j p => cases v <;> simp [mtE] at h; obtain ⟨h, k⟩ := h; subst h; exact ⟨⟨_, _, rfl⟩, k⟩
  | _ => simp [mtE] at h
theorem inv_var {i : Nat} (h : mtE nm cs N sc (.var i) e = true) : ∃ x p, e = .Name x p ∧ N[i]? = some x ∧ visB sc x = true ∧ okN x = true := by
  cases e with
  | Name x p => simp only [mtE, Bool.and_eq_true, decide_eq_true_eq] at h; exact ⟨_, _, rfl, h.1, h.2.1, h.2.2⟩
  | _ => simp [mtE] at h
theorem inv_con {x : Str} {d : D} (h : mtE nm cs N sc (.con x d) e = true) : ∃ p, e = .Name x p ∧ glB sc x = true ∧ okN x = true ∧ (x, d) ∈ cs := by
  cases e with
  | Name y p =>
    simp only [mtE, Bool.and_eq_true, decide_eq_true_eq] at h
    obtain ⟨h0, h⟩ := h
    subst h0
    exact ⟨_, rfl, h.1, h.2.1, h.2.2⟩
  | _ => simp [mtE] at h
theorem inv_bin {o : Bop} {a b : Ex F} (h : mtE nm cs N sc (.bin o a b) e = true) : ∃ ea eb p, e = .BinOp ea (bopE o) eb p ∧ mtE nm cs N sc a ea = true ∧ mtE nm cs N sc b eb = true := by
  cases e with
  | BinOp ea op eb p =>
    simp only [mtE, Bool.and_eq_true, decide_eq_true_eq] at h
    obtain ⟨h0, h⟩ := h
    subst h0
    exact ⟨_, _, _, rfl, h.1, h.2⟩
  | _ => simp [mtE] at h
theorem inv_neg {a : Ex F} (h : mtE nm cs N sc (.neg a) e = true) : ∃ ea p, e = .UnaryOp .USub ea p ∧ mtE nm cs N sc a ea = true := by
  cases e with
  | UnaryOp op ea p => cases op <;> simp [mtE] at h; exact ⟨_, _, rfl, h⟩
  | _ => simp [mtE] at h
theorem inv_not {a : Ex F} (h : mtE nm cs N sc (.not a) e = true) : ∃ ea p, e = .UnaryOp .Not ea p ∧ mtE nm cs N sc a ea = true := by
  cases e with
  | UnaryOp op ea p => cases op <;> simp [mtE] at h; exact ⟨_, _, rfl, h⟩
  | _ => simp [mtE] at h
theorem inv_cmp {o : Cop} {a b : Ex F} (h : mtE nm cs N sc (.cmp o a b) e = true) : ∃ ea eb p, e = .Compare ea [copE o] [eb] p ∧ plainX eb = true ∧ mtE nm cs N sc a ea = true ∧ mtE nm cs N sc b eb = true := by
  cases e with
  | Compare ea ops es p =>
    rcases ops with _ | ⟨o1, _ | ⟨o2, r⟩⟩
    · simp [mtE] at h
    · rcases es with _ | ⟨e1, _ | ⟨e2, r⟩⟩
      · simp [mtE] at h
      · simp only [mtE, Bool.and_eq_true, decide_eq_true_eq] at h
        obtain ⟨h0, h⟩ := h
        subst h0
        exact ⟨_, _, _, rfl, h.1, h.2.1, h.2.2⟩
      · simp [mtE] at h
    · simp [mtE] at h
  | _ => simp [mtE] at h
theorem inv_cm2 {o p : Cop} {a b c : Ex F} (h : mtE nm cs N sc (.cm2 o p a b c) e = true) : ∃ ea eb ec q, e = .Compare ea [copE o, copE p] [eb, ec] q ∧ plainX ec = true ∧ mtE nm cs N sc a ea = true ∧ mtE nm cs N sc b eb = true ∧ mtE nm cs N sc c ec = true := by
  cases e with
  | Compare ea ops es q =>
    rcases ops with _ | ⟨o1, _ | ⟨o2, _ | ⟨o3, r⟩⟩⟩
    · simp [mtE] at h
    · simp [mtE] at h
    · rcases es with _ | ⟨e1, _ | ⟨e2, _ | ⟨e3, r⟩⟩⟩
      · simp [mtE] at h
      · simp [mtE] at h
      · simp only [mtE, Bool.and_eq_true, decide_eq_true_eq] at h
        obtain ⟨h0, h1, h⟩ := h
        subst h0 h1
        exact ⟨_, _, _, _, rfl, h.1, h.2.1, h.2.2.1, h.2.2.2⟩
      · simp [mtE] at h
    · simp [mtE] at h
  | _ => simp [mtE] at h
theorem inv_cm3 {o p q : Cop} {a b c d : Ex F} (h : mtE nm cs N sc (.cm3 o p q a b c d) e = true) : ∃ ea eb ec ed z, e = .Compare ea [copE o, copE p, copE q] [eb, ec, ed] z ∧ plainX ed = true ∧ mtE nm cs N sc a ea = true ∧ mtE nm cs N sc b eb = true ∧ mtE nm cs N sc c ec = true ∧ mtE nm cs N sc d ed = true := by
  cases e with
  | Compare ea ops es z =>
    rcases ops with _ | ⟨o1, _ | ⟨o2, _ | ⟨o3, _ | ⟨o4, r⟩⟩⟩⟩
    · simp [mtE] at h
    · simp [mtE] at h
    · simp [mtE] at h
    · rcases es with _ | ⟨e1, _ | ⟨e2, _ | ⟨e3, _ | ⟨e4, r⟩⟩⟩⟩
      · simp [mtE] at h
      · simp [mtE] at h
      · simp [mtE] at h
      · simp only [mtE, Bool.and_eq_true, decide_eq_true_eq] at h
        obtain ⟨h0, h1, h2, h⟩ := h
        subst h0 h1 h2
        exact ⟨_, _, _, _, _, rfl, h.1, h.2.1, h.2.2.1, h.2.2.2.1, h.2.2.2.2⟩
      · simp [mtE] at h
    · simp [mtE] at h
  | _ => simp [mtE] at h
theorem inv_and {a b : Ex F} (h : mtE nm cs N sc (.and a b) e = true) : ∃ e1 e2 r p, e = .BoolOp .And (e1 :: e2 :: r) p ∧ mtE nm cs N sc a e1 = true ∧ ((r = [] ∧ mtE nm cs N sc b e2 = true) ∨ mtE nm cs N sc b (.BoolOp .And (e2 :: r) p) = true) := by
  cases e with
  | BoolOp op es p =>
    cases op with
    | Or => simp [mtE] at h
    | And =>
      rcases es with _ | ⟨e1, _ | ⟨e2, r⟩⟩
      · simp [mtE] at h
      · simp [mtE] at h
      · refine ⟨_, _, _, _, rfl, ?_⟩
        cases r with
        | nil =>
          simp only [mtE, Bool.and_eq_true] at h
          exact ⟨h.1, .inl ⟨rfl, h.2⟩⟩
        | cons e3 r =>
          simp only [mtE, Bool.and_eq_true] at h
          exact ⟨h.1, .inr h.2⟩
  | _ => simp [mtE] at h
theorem inv_or {a b : Ex F} (h : mtE nm cs N sc (.or a b) e = true) : ∃ e1 e2 r p, e = .BoolOp .Or (e1 :: e2 :: r) p ∧ mtE nm cs N sc a e1 = true ∧ ((r = [] ∧ mtE nm cs N sc b e2 = true) ∨ mtE nm cs N sc b (.BoolOp .Or (e2 :: r) p) = true) := by
  cases e with
  | BoolOp op es p =>
    cases op with
    | And => simp [mtE] at h
    | Or =>
      rcases es with _ | ⟨e1, _ | ⟨e2, r⟩⟩
      · simp [mtE] at h
      · simp [mtE] at h
      · refine ⟨_, _, _, _, rfl, ?_⟩
        cases r with
        | nil =>
          simp only [mtE, Bool.and_eq_true] at h
          exact ⟨h.1, .inl ⟨rfl, h.2⟩⟩
        | cons e3 r =>
          simp only [mtE, Bool.and_eq_true] at h
          exact ⟨h.1, .inr h.2⟩
  | _ => simp [mtE] at h
theorem inv_ite {c a b : Ex F} (h : mtE nm cs N sc (.ite c a b) e = true) : ∃ ec ea eb p, e = .IfExp ec ea eb p ∧ mtE nm cs N sc c ec = true ∧ mtE nm cs N sc a ea = true ∧ mtE nm cs N sc b eb = true := by
  cases e with
  | IfExp ec ea eb p => simp only [mtE, Bool.and_eq_true] at h; exact ⟨_, _, _, _, rfl, h.1, h.2.1, h.2.2⟩
  | _ => simp [mtE] at h
theorem inv_tup {xs : Exs F} (h : mtE nm cs N sc (.tup xs) e = true) : ∃ es k p, e = .Tuple es k p ∧ mtEs nm cs N sc xs es = true := by
  cases e with
  | Tuple es k p => rw [mtE] at h; exact ⟨_, _, _, rfl, h⟩
  | _ => simp [mtE] at h
theorem inv_lst {xs : Exs F} (h : mtE nm cs N sc (.lst xs) e = true) : ∃ es p, e = .List es p ∧ mtEs nm cs N sc xs es = true := by
  cases e with
  | List es p => rw [mtE] at h; exact ⟨_, _, rfl, h⟩
  | _ => simp [mtE] at h
theorem inv_idx {a i : Ex F} (h : mtE nm cs N sc (.idx a i) e = true) : ∃ ea ei p, e = .Subscript ea ei p ∧ plainX ei = true ∧ mtE nm cs N sc a ea = true ∧ mtE nm cs N sc i ei = true := by
  cases e with
  | Subscript ea ei p => simp only [mtE, Bool.and_eq_true] at h; exact ⟨_, _, _, rfl, h.1, h.2.1, h.2.2⟩
  | _ => simp [mtE] at h
theorem inv_slc {a : Ex F} {lo hi : OEx F} (h : mtE nm cs N sc (.slc a lo hi) e = true) : ∃ ea l u p2 p, e = .Subscript ea (.Slice l u none p2) p ∧ mtE nm cs N sc a ea = true ∧ mtO nm cs N sc lo l = true ∧ mtO nm cs N sc hi u = true := by
  cases e with
  | Subscript ea ei p =>
    cases ei with
    | Slice l u st p2 =>
      cases st with
      | none => simp only [mtE, Bool.and_eq_true] at h; exact ⟨_, _, _, _, _, rfl, h.1, h.2.1, h.2.2⟩
      | some _ => simp [mtE] at h
    | _ => simp [mtE] at h
  | _ => simp [mtE] at h
theorem inv_call {f : F} {xs : Exs F} (h : mtE nm cs N sc (.call f xs) e = true) : ∃ e1 es p q, e = .Call (.Name (nm f) p) (e1 :: es) [] q ∧ glB sc (nm f) = true ∧ okN (nm f) = true ∧ mtEs nm cs N sc xs (e1 :: es) = true := by
  cases e with
  | Call g es ks q =>
    cases g with
    | Name x p =>
      cases es with
      | nil => simp [mtE] at h
      | cons e1 es =>
        cases ks with
        | nil =>
          simp only [mtE, Bool.and_eq_true, decide_eq_true_eq] at h
          obtain ⟨h0, h⟩ := h
          subst h0
          exact ⟨_, _, _, _, rfl, h.1, h.2.1, h.2.2⟩
        | cons _ _ => simp [mtE] at h
    | _ => simp [mtE] at h
  | _ => simp [mtE] at h
theorem inv_blt {f : Bn} {xs : Exs F} (h : mtE nm cs N sc (.blt f xs) e = true) : ∃ e1 es p q, e = .Call (.Name (bnS f) p) (e1 :: es) [] q ∧ glB sc (bnS f) = true ∧ okN (bnS f) = true ∧ mtEs nm cs N sc xs (e1 :: es) = true := by
  cases e with
  | Call g es ks q =>
    cases g with
    | Name x p =>
      cases es with
      | nil => simp [mtE] at h
      | cons e1 es =>
        cases ks with
        | nil =>
          simp only [mtE, Bool.and_eq_true, decide_eq_true_eq] at h
          obtain ⟨h0, h⟩ := h
          subst h0
          exact ⟨_, _, _, _, rfl, h.1, h.2.1, h.2.2⟩
        | cons _ _ => simp [mtE] at h
    | _ => simp [mtE] at h
  | _ => simp [mtE] at h
theorem inv_met {mt : Mn} {o y : Ex F} (h : mtE nm cs N sc (.met mt o y) e = true) : ∃ eo ap e1 q, e = .Call (.Attribute eo (Str.ofString (mnN mt)) ap) [e1] [] q ∧ noCall eo = true ∧ (ap.endLine == q.line) = true ∧ plainX e1 = true ∧ mtE nm cs N sc o eo = true ∧ mtE nm cs N sc y e1 = true := by
  cases e with
  | Call g es ks q =>
    cases g with
    | Attribute eo x ap =>
      rcases es with _ | ⟨e1, _ | ⟨e2, r⟩⟩
      · simp [mtE] at h
      · cases ks with
        | nil =>
          simp only [mtE, Bool.and_eq_true, decide_eq_true_eq] at h
          obtain ⟨h0, h⟩ := h
          subst h0
          exact ⟨_, _, _, _, rfl, h.1, h.2.1, h.2.2.1, h.2.2.2.1, h.2.2.2.2⟩
        | cons _ _ => simp [mtE] at h
      · simp [mtE] at h
    | _ => simp [mtE] at h
  | _ => simp [mtE] at h
theorem inv_dnew (h : mtE nm cs N sc (.dnew : Ex F) e = true) : ∃ p, e = .Dict [] [] p := by
  cases e with
  | Dict ks vs p =>
    cases ks with
    | nil => cases vs with
      | nil => exact ⟨p, rfl⟩
      | cons _ _ => exact Bool.noConfusion (show false = true from h)
    | cons _ _ => exact Bool.noConfusion (show false = true from h)
  | _ => exact Bool.noConfusion (show false = true from h)
theorem inv_sset {y : Ex F} (h : mtE nm cs N sc (.sset y) e = true) : ∃ p e1 p2 q2 q, e = .Call (.Name (Str.ofString "sorted") p) [.Call (.Name (Str.ofString "set") p2) [e1] [] q2] [] q ∧ glB sc (Str.ofString "sorted") = true ∧ glB sc (Str.ofString "set") = true ∧ plainX e1 = true ∧ mtE nm cs N sc y e1 = true := by
  cases e with
  | Call g es ks q =>
    cases g with
    | Name x p =>
      rcases es with _ | ⟨e1, _ | ⟨e2, r⟩⟩
      · simp [mtE] at h
      · cases e1 with
        | Call g2 es2 ks2 q2 =>
          cases g2 with
          | Name x2 p2 =>
            rcases es2 with _ | ⟨e3, _ | ⟨e4, r⟩⟩
            · simp [mtE] at h
            · cases ks2 with
              | nil =>
                cases ks with
                | nil =>
                  simp only [mtE, Bool.and_eq_true, decide_eq_true_eq] at h
                  obtain ⟨h0, h1, h2, h3, h⟩ := h
                  subst h0 h2
                  exact ⟨_, _, _, _, _, rfl, h1, h3, h.1, h.2⟩
                | cons _ _ => simp [mtE] at h
              | cons _ _ => simp [mtE] at h
            · simp [mtE] at h
          | _ => simp [mtE] at h
        | _ => simp [mtE] at h
      · simp [mtE] at h
    | _ => simp [mtE] at h
  | _ => simp [mtE] at h
theorem inv_isi {a : Ex F} {t : Ty} (h : mtE nm cs N sc (.isi a t) e = true) : ∃ p e1 p2 q, e = .Call (.Name (Str.ofString "isinstance") p) [e1, .Name (tyS t) p2] [] q ∧ glB sc (Str.ofString "isinstance") = true ∧ glB sc (tyS t) = true ∧ plainX e1 = true ∧ mtE nm cs N sc a e1 = true := by
  cases e with
  | Call g es ks q =>
    cases g with
    | Name x p =>
      rcases es with _ | ⟨e1, _ | ⟨e2, _ | ⟨e3, r⟩⟩⟩
      · simp [mtE] at h
      · simp [mtE] at h
      · cases e2 with
        | Name y p2 =>
          cases ks with
          | nil =>
            simp only [mtE, Bool.and_eq_true, decide_eq_true_eq] at h
            obtain ⟨h0, h1, h2, h⟩ := h
            subst h0 h2
            exact ⟨_, _, _, _, rfl, h1, h.1, h.2.1, h.2.2⟩
          | cons _ _ => simp [mtE] at h
        | _ => simp [mtE] at h
      · simp [mtE] at h
    | _ => simp [mtE] at h
  | _ => simp [mtE] at h
theorem inv_lc {tg : List Nat} {one : Bool} {x : Ex F} {it : It F} {c : OEx F} (h : mtE nm cs N sc (.lc tg one x it c) e = true) :
    ∃ elt te iter ifs scope p, e = .ListComp elt [⟨te, iter, ifs, 0⟩] scope p ∧ blkC N sc scope (ownOf N tg) = true ∧ mtTg N scope tg one te = true ∧ mtI nm cs N sc it iter = true ∧ mtE nm cs N scope x elt = true ∧
      ((c = .none ∧ ifs = []) ∨ ∃ t e1, c = .some t ∧ ifs = [e1] ∧ mtE nm cs N scope t e1 = true) := by
  cases e with
  | ListComp elt gens scope p =>
    rcases gens with _ | ⟨g, _ | ⟨g2, r⟩⟩
    · simp [mtE] at h
    · obtain ⟨te, iter, ifs, z⟩ := g
      cases c with
      | none =>
        cases ifs with
        | nil =>
          simp only [mtE, Bool.and_eq_true, decide_eq_true_eq] at h
          obtain ⟨h0, h1, h2, h3, h4, h5⟩ := h
          subst h0
          exact ⟨_, _, _, _, _, _, rfl, h1, h2, h3, h4, .inl ⟨rfl, rfl⟩⟩
        | cons _ _ => simp [mtE] at h
      | some t =>
        rcases ifs with _ | ⟨e1, _ | ⟨e2, r⟩⟩
        · simp [mtE] at h
        · simp only [mtE, Bool.and_eq_true, decide_eq_true_eq] at h
          obtain ⟨h0, h1, h2, h3, h4, h5⟩ := h
          subst h0
          exact ⟨_, _, _, _, _, _, rfl, h1, h2, h3, h4, .inr ⟨_, _, rfl, rfl, h5⟩⟩
        · simp [mtE] at h
    · simp [mtE] at h
  | _ => simp [mtE] at h
end
end SB
end

section
set_option maxHeartbeats 4000000
namespace SB
open PySem PySem.Spec PyProof.Rows L2

/-! ### slots -/
structure RS (K : PySem.W.Frag) (m : List Addr) (H : Hp) (env : Env) (σ : L2.St) : Prop where
  len : env.length = σ.length
  get : ∀ (i : Nat) (d : D), env[i]? = some (some d) → ∃ v, σ[i]? = some (some v) ∧ RV K m H d v
theorem RS.mono {K : PySem.W.Frag} {m m' : List Addr} {H H' : Hp} {S : Sto} {env : Env} {σ : L2.St} (a : Step m H m' H') (q : Sim K m H S) (r : RS K m H env σ) : RS K m' H' env σ :=
  ⟨r.len, fun i d e => let ⟨v, e1, e2⟩ := r.get i d e; ⟨v, e1, e2.mono a q⟩⟩
theorem RS.set {K : PySem.W.Frag} {m : List Addr} {H : Hp} {env : Env} {σ : L2.St} (r : RS K m H env σ) {d : D} {v : V} (h : RV K m H d v) (i : Nat) : RS K m H (env.set i (some d)) (σ.set i (some v)) := by
  refine ⟨by simp [r.len], fun j d' e => ?_⟩
  by_cases hj : j = i
  · subst hj
    by_cases hl : j < env.length
    · rw [List.getElem?_set_self hl] at e
      cases e
      exact ⟨v, List.getElem?_set_self (by rw [← r.len]; exact hl), h⟩
    · rw [List.getElem?_eq_none (by simp; omega)] at e
      cases e
  · rw [List.getElem?_set_ne (Ne.symm hj)] at e
    obtain ⟨v', e1, e2⟩ := r.get j d' e
    exact ⟨v', by rw [List.getElem?_set_ne (Ne.symm hj)]; exact e1, e2⟩
theorem RS.unset {K : PySem.W.Frag} {m : List Addr} {H : Hp} {env : Env} {σ : L2.St} (r : RS K m H env σ) (i : Nat) : RS K m H (env.set i none) (σ.set i none) := by
  refine ⟨by simp [r.len], fun j d' e => ?_⟩
  by_cases hj : j = i
  · subst hj
    by_cases hl : j < env.length
    · rw [List.getElem?_set_self hl] at e
      cases e
    · rw [List.getElem?_eq_none (by simp; omega)] at e
      cases e
  · rw [List.getElem?_set_ne (Ne.symm hj)] at e
    obtain ⟨v', e1, e2⟩ := r.get j d' e
    exact ⟨v', by rw [List.getElem?_set_ne (Ne.symm hj)]; exact e1, e2⟩
theorem RS.wipe {K : PySem.W.Frag} {m : List Addr} {H : Hp} {env : Env} {σ : L2.St} (r : RS K m H env σ) : ∀ vs : List Nat, RS K m H (SB.wipe env vs) (L2.wipe σ vs)
  | [] => r
  | v :: vs => (RS.wipe r vs).unset v
theorem wipe_get : ∀ (vs : List Nat) (σ : L2.St) (i : Nat), (L2.wipe σ vs)[i]? = if i ∈ vs ∧ i < σ.length then some none else σ[i]?
  | [], σ, i => by simp [L2.wipe]
  | v :: vs, σ, i => by
    show ((L2.wipe σ vs).set v none)[i]? = _
    rw [List.getElem?_set, L2.wipe_length, wipe_get vs σ i]
    by_cases e : v = i
    · subst e
      by_cases hl : v < σ.length
      · simp [hl]
      · simp [hl]
    · have e' : i ≠ v := fun z => e z.symm
      simp [e, e']
theorem wipe_eq {vs : List Nat} {σ τ : L2.St} (hl : σ.length = τ.length) (h : ∀ i : Nat, i ∉ vs → σ[i]? = τ[i]?) : L2.wipe σ vs = L2.wipe τ vs := by
  apply List.ext_getElem?
  intro i
  rw [wipe_get, wipe_get, hl]
  by_cases hi : i ∈ vs
  · by_cases h2 : i < τ.length
    · simp [hi, h2]
    · simp only [hi, h2, and_false, if_false]
      rw [List.getElem?_eq_none (by omega), List.getElem?_eq_none (by omega)]
  · simp only [hi, false_and, if_false]
    exact h i hi

/-! ### the context -/
def bNames : List Str := ["len", "abs", "min", "max", "ord", "tuple", "list", "set", "sorted", "int", "isinstance", "range", "str", "bool", "enumerate", "zip", "sum"]
section
variable {F : Type} (nm : F → Str) (cs : List (Str × D)) (np : F → Nat)
/-- what a def promises by its evaluation -/
def spF (K : PySem.W.Frag) (Cf : List D → Sto → R D) : Sp := fun vs H Q E => ∃ m S ds, Sim K m H S ∧ RVs K m H ds vs ∧ Post K (RV K) m H (fun c d _ H' => E c d H') (Cf ds S) Q
structure FnIs (P : Program) (w : World) (K : PySem.W.Frag) (mg : Str → Option Value) (base : Heap) (k : Nat) (n : Nat) (x : Str) (Cf : List D → Sto → R D) : Prop where
  ex : ∃ fd ps, Binds K fd ps [] ∧ ps.length = n ∧ FnOk P w K mg base (L2.CX P w) k (He.ga K x) fd ps (spF K Cf)
structure Glob (K : PySem.W.Frag) (mg : Str → Option Value) : Prop where
  free : ∀ n ∈ bNames, mg n = none
  con : ∀ p ∈ cs, ∃ v u, mg p.1 = some u ∧ RelV v u ∧ ∀ m H, RV K m H p.2 v
  fn : ∀ f : F, mg (nm f) = some (.ref (He.ga K (nm f))) ∧ PySem.W.keepIn K (.ref (He.ga K (nm f))) = true
/-- the scope as it is written, the scope that runs -/
structure ScOk (X : Cx) (sc : Scope) : Prop where
  vis : ∀ x, visB sc x = true → Vis X.env.scope x
  loc : ∀ x, locB sc x = true → Loc X.env.scope x ∧ (X.fn x = true ∨ X.env.scope.names.lookup x = some .local)
  gl : ∀ x, glB sc x = true → Gl X x
  cf : ∀ x, sc.names.lookup x = some .cell ∨ sc.names.lookup x = some .free → X.env.scope.names.lookup x = some .cell ∨ X.env.scope.names.lookup x = some .free
structure Good (C : F → List D → Sto → R D) (X : Cx) (W : WX) : Prop where
  calm : X.calm = true
  nd : X.N.Nodup
  tk : Takes X W
  glob : Glob nm cs X.K X.mg
  k : ∃ k, Room k X.A ∧ ∀ f, FnIs X.prog X.w X.K X.mg X.base k (np f) (nm f) (C f)
end
section
variable {F : Type} {nm : F → Str} {cs : List (Str × D)} {np : F → Nat} {C : F → List D → Sto → R D} {X : Cx} {W : WX}
theorem Good.hu (g : Good nm cs np C X W) : X.A.units + 200 < cLine := by
  obtain ⟨k, r, _⟩ := g.k
  have := r.un
  omega
theorem Good.blk (g : Good nm cs np C X W) (s : Shared) (H : Hp) (scope : Scope) (Cc : Addr) (cl : List (Str × Addr)) (fp : List Addr) : Good nm cs np C (X.blk s H scope (compEnvC scope cl Cc X.env) fp) (fun _ _ _ _ => False) :=
  ⟨g.calm, g.nd, takes0, g.glob, g.k⟩
theorem relab_free {env : PySem.Env} : ∀ {ns : List (Str × NameKind)} {x : Str}, ns.lookup x = some .free →
    (ns.map fun (n, k) => if (k == .free && env.scope.kind == .function && env.kindOf n == some .cell) then (n, NameKind.cell) else (n, k)).lookup x = some .cell ∨
    (ns.map fun (n, k) => if (k == .free && env.scope.kind == .function && env.kindOf n == some .cell) then (n, NameKind.cell) else (n, k)).lookup x = some .free
  | [], _, h => by simp at h
  | (y, k0) :: r, x, h => by
    have ih := @relab_free env r x
    simp only [List.map_cons]
    cases hx : x == y with
    | true =>
      simp only [List.lookup_cons, hx] at h
      cases h
      by_cases c : (NameKind.free == NameKind.free && env.scope.kind == .function && env.kindOf y == some .cell) = true
      · rw [if_pos c]; simp [List.lookup_cons, hx]
      · rw [if_neg c]; simp [List.lookup_cons, hx]
    | false =>
      simp only [List.lookup_cons, hx] at h
      by_cases c : (k0 == NameKind.free && env.scope.kind == .function && env.kindOf y == some .cell) = true
      · rw [if_pos c]; simp only [List.lookup_cons, hx]; exact ih h
      · rw [if_neg c]; simp only [List.lookup_cons, hx]; exact ih h
theorem relab_keep {env : PySem.Env} {scope : Scope} {x : Str} {k : NameKind} (hk : k ≠ .free) (h : scope.names.lookup x = some k) : (relabel scope env).names.lookup x = some k := lookup_relS_keep (sc := env.scope) hk h
theorem ScOk.blk (s : Shared) (H : Hp) (scope : Scope) (Cc : Addr) (cl : List (Str × Addr)) (fp : List Addr) : ScOk (X.blk s H scope (compEnvC scope cl Cc X.env) fp) scope where
  vis := fun x h => by
    unfold visB at h
    split at h
    · exact .inl (relab_keep (by decide) (by assumption))
    · exact .inr (.inl (relab_keep (by decide) (by assumption)))
    · exact .inr ((relab_free (by assumption)).elim .inl .inr)
    · cases h
  loc := fun x h => by
    unfold locB at h
    split at h
    · rename_i e
      have q : (relabel scope X.env).names.lookup x = some .local := relab_keep (by decide) e
      exact ⟨.inl q, .inr q⟩
    · rename_i e
      have q : (relabel scope X.env).names.lookup x = some .cell := relab_keep (by decide) e
      refine ⟨.inr q, .inl ?_⟩
      show (scope.names.lookup x == some NameKind.cell) = true
      rw [e]; rfl
    · cases h
  gl := fun x h => by
    unfold glB at h
    split at h
    · rename_i e
      exact (relab_keep (by decide) e : (relabel scope X.env).names.lookup x = some .globalImplicit)
    · cases h
  cf := fun x h => by
    rcases h with h | h
    · exact .inl (relab_keep (by decide) h)
    · exact relab_free h
theorem ScOk.self (h : ∀ x, X.fn x = true) : ScOk X X.env.scope where
  vis := fun x h => by
    unfold visB at h
    split at h <;> first | exact .inl (by assumption) | exact .inr (.inl (by assumption)) | exact .inr (.inr (by assumption)) | cases h
  loc := fun x k => by
    unfold locB at k
    split at k <;> first | exact ⟨.inl (by assumption), .inl (h x)⟩ | exact ⟨.inr (by assumption), .inl (h x)⟩ | cases k
  gl := fun x k => by
    unfold glB at k
    split at k
    · assumption
    · cases k
  cf := fun x k => k
theorem okN_of {x : Str} (h : okN x = true) : (x == ("__debug__" : Str)) = false ∧ (x == ("__classdict__" : Str)) = false ∧ x ≠ ("__name__" : Str) := by
  unfold okN at h
  simp only [Bool.and_eq_true, Bool.not_eq_true'] at h
  exact ⟨h.1, h.2.1, fun e => by have := h.2.2; rw [e] at this; simp at this⟩

/-! ### targets -/
theorem names_pgs (g : Good nm cs np C X W) {sc : Scope} (so : ScOk X sc) : ∀ {is : List Nat} {es : List Expr}, mtNames X.N sc is es = true →
    ∃ gs, PGs X es gs ∧ es.length = is.length ∧ (∃ l, assignEach es X.env = l ∧ l.length = es.length ∧ ∀ p ∈ l, p.1 = false) ∧ ∀ {K : PySem.W.Frag} {m : List Addr} {H : Hp} {ds : List D} {vs : List V} {env env' : Env} {σ : L2.St} {Q : L2.St → Hp → Prop},
      RVs K m H ds vs → RS K m H env σ → setMany is ds env = some env' → (∀ σ', RS K m H env' σ' → σ'.length = σ.length → (∀ i : Nat, i ∉ is → σ'[i]? = σ[i]?) → Q σ' H) → gs vs σ H Q
  | [], [], _ => ⟨gNil, pgs_nil, rfl, ⟨[], rfl, rfl, fun _ h => nomatch h⟩, fun {K m H ds vs env env' σ Q} r rs e h => by
      cases r with
      | nil => cases e; exact ⟨rfl, h σ rs rfl fun _ _ => rfl⟩
      | cons _ _ => cases e⟩
  | [], _ :: _, h => by simp [mtNames] at h
  | i :: is, [], h => by simp [mtNames] at h
  | i :: is, e :: es, h => by
    cases e with
    | Name x p =>
      simp only [mtNames, Bool.and_eq_true, decide_eq_true_eq] at h
      obtain ⟨gs, p1, l1, ⟨l, el, ll, lf⟩, c1⟩ := names_pgs g so h.2
      have hl := so.loc x h.1.2
      refine ⟨gCons (gName i) gs, pgs_cons (pg_name (i := i) g.nd h.1.1 hl.1 hl.2) p1 rfl, by simp [l1], ⟨(false, assign (.Name x p) X.env) :: l, ?_, by simp [ll], ?_⟩, fun {K m H ds vs env env' σ Q} r rs e h => ?_⟩
      · rw [← el]; rfl
      · intro q hq
        rcases List.mem_cons.mp hq with z | z
        · rw [z]
        · exact lf q z
      · cases r with
        | nil => cases e
        | cons r0 rr =>
          have e' : setMany is _ (env.set i (some _)) = some env' := e
          refine ⟨_, _, rfl, c1 rr (rs.set r0 i) e' fun σ' rs' hlen hk => h σ' rs' (by rw [hlen]; simp) fun j hj => ?_⟩
          rw [hk j fun z => hj (List.mem_cons_of_mem _ z)]
          exact List.getElem?_set_ne fun z => hj (by rw [z]; exact List.mem_cons_self ..)
    | _ => simp [mtNames] at h
theorem tg_pg (g : Good nm cs np C X W) {sc : Scope} (so : ScOk X sc) {tg : List Nat} {one : Bool} {te : Expr} (h : mtTg X.N sc tg one te = true) :
    ∃ gt, PG X te gt ∧ ∀ {m : List Addr} {H : Hp} {d : D} {v : V} {env env' : Env} {σ : L2.St} {Q : L2.St → Hp → Prop}, RV X.K m H d v → RS X.K m H env σ → bindT tg one d env = some env' →
      (∀ σ', RS X.K m H env' σ' → σ'.length = σ.length → (∀ i : Nat, i ∉ tg → σ'[i]? = σ[i]?) → Q σ' H) → gt v σ H Q := by
  cases te with
  | Name x p =>
    simp only [mtTg, Bool.and_eq_true] at h
    obtain ⟨h1, h2⟩ := h
    subst h1
    rcases tg with _ | ⟨i, _ | ⟨j, r⟩⟩
    · cases h2
    · simp only [Bool.and_eq_true, decide_eq_true_eq] at h2
      have hl := so.loc x h2.2
      refine ⟨gName i, pg_name (i := i) g.nd h2.1 hl.1 hl.2, fun {m H d v env env' σ Q} r rs e h => ?_⟩
      cases e
      refine h _ (rs.set r i) (by simp) fun j hj => List.getElem?_set_ne fun z => hj (by rw [z]; exact List.mem_singleton.mpr rfl)
    · cases h2
  | Tuple es k p =>
    simp only [mtTg, Bool.and_eq_true, Bool.not_eq_true'] at h
    obtain ⟨h1, h2⟩ := h
    subst h1
    obtain ⟨gs, p1, l1, ⟨l, el, ll, lf⟩, c1⟩ := names_pgs g so h2
    refine ⟨gTup X.K es.length gs, pg_tup g.calm p1 (by rw [el]; exact ll) ?_, fun {m H d v env env' σ Q} r rs e h => ?_⟩
    · rw [el, List.findIdx?_eq_none_iff]
      exact lf
    · unfold bindT at e
      split at e
      · simp_all
      · rename_i l0 _
        cases r with
        | tup t r =>
          refine ⟨_, _, rfl, t, ?_, c1 r rs e h⟩
          have a1 := r.length
          have a2 : ∀ {is : List Nat} {ds : List D} {env env' : Env}, setMany is ds env = some env' → is.length = ds.length := by
            intro is
            induction is with
            | nil => intro ds env env' e; cases ds with
              | nil => rfl
              | cons _ _ => cases e
            | cons i is ih => intro ds env env' e; cases ds with
              | nil => cases e
              | cons d ds => simp [ih (show setMany is ds (env.set i (some d)) = some env' from e)]
          have a3 := a2 e
          omega
      · cases e
  | _ => simp [mtTg] at h
end

/-! ### the judgements -/
section
variable {F : Type} (C : F → List D → Sto → R D) (X : Cx) (W : WX)
def SE (x : Ex F) (e : Expr) : Prop := ∃ t, PE X e t ∧ ∀ {m : List Addr} {S : Sto} {env : Env} {σ : L2.St} {H : Hp} {Q : VK}, Sim X.K m H S → RS X.K m H env σ → Post X.K (RV X.K) m H (fun c d _ H' => W c d σ H') (evE C x env S) Q → t σ H Q
def ST (x : Ex F) (e : Expr) : Prop := ∃ t, PT X e t ∧ ∀ {m : List Addr} {S : Sto} {env : Env} {σ : L2.St} {H : Hp} {Q : Bool → Hp → Prop}, Sim X.K m H S → RS X.K m H env σ → Post X.K relB m H (fun c d _ H' => W c d σ H') (evT C x env S) Q → t σ H Q
def SA (x : Exs F) (e : List Expr) : Prop := ∃ t, PA X e t ∧ ∀ {m : List Addr} {S : Sto} {env : Env} {σ : L2.St} {H : Hp} {Q : List V → Hp → Prop}, Sim X.K m H S → RS X.K m H env σ → Post X.K (RVs X.K) m H (fun c d _ H' => W c d σ H') (evEs C x env S) Q → t σ H Q
def SO (x : OEx F) (e : Option Expr) : Prop := ∃ t, PO X e t ∧ ∀ {m : List Addr} {S : Sto} {env : Env} {σ : L2.St} {H : Hp} {Q : Option Int → Hp → Prop}, Sim X.K m H S → RS X.K m H env σ → Post X.K relI m H (fun c d _ H' => W c d σ H') (evO C x env S) Q → t σ H Q
/-- the hand layer's walk J goes over the items -/
def Walk (K : PySem.W.Frag) (m0 : List Addr) (H0 : Hp) (its : Items) (J : L2.It) : Prop := ∀ m H S, Step m0 H0 m H → Sim K m H S → watch its.2 S = true →
  (∀ i d, its.1[i]? = some d → J.go i H ∧ ∀ x H', J.yld i H x H' → Step m H m H' ∧ Sim K m H' S ∧ RV K m H' d x) ∧ J.stop its.1.length H
def SI (x : It F) (e : Expr) : Prop := (∀ v, foldedSetIterable e X.env v = pure v) ∧ ∃ t : TI, (∀ tg, PI X tg e t) ∧ ∀ {m : List Addr} {S : Sto} {env : Env} {σ : L2.St} {H : Hp} {R : L2.It → Hp → Prop}, Sim X.K m H S → RS X.K m H env σ → Post X.K (Walk X.K) m H (fun c d _ H' => W c d σ H') (evIt C x env S) R → t σ H R
end
end SB
end

section
set_option maxHeartbeats 4000000
namespace SB
open PySem PySem.Spec PyProof.Rows L2

theorem Post.bindB {α β γ δ : Type} {K : PySem.W.Frag} {rel : List Addr → Hp → α → β → Prop} {rel2 : List Addr → Hp → γ → δ → Prop} {m m1 : List Addr} {H H1 : Hp} {E : XW} {r : R α} {f : α → Sto → R γ} {Q : β → Hp → Prop} {Q2 : δ → Hp → Prop}
    (h : Post K rel2 m1 H1 E (r.bind f) Q2) (st : Step m1 H1 m H) (g : ∀ d S1 x m' H', Step m H m' H' → Sim K m' H' S1 → rel m' H' d x → Post K rel2 m1 H1 E (f d S1) Q2 → Q x H') : Post K rel m H E r Q := by
  cases r with
  | ok d S' => exact fun v m' H' s q r => g d S' v m' H' s q r h
  | exc c fs S' => exact fun cls dx m' H' s q r => h cls dx m' H' (st.trans s) q r
  | err => exact h
theorem Post.noxB {α β γ δ : Type} {K : PySem.W.Frag} {rel : List Addr → Hp → α → β → Prop} {rel2 : List Addr → Hp → γ → δ → Prop} {m m1 : List Addr} {H H1 : Hp} {E E' : XW} {r : R α} {f : α → Sto → R γ} {Q : β → Hp → Prop} {Q2 : δ → Hp → Prop}
    (h : Post K rel2 m1 H1 E (r.nox.bind f) Q2) (g : ∀ d S1 x m' H', Step m H m' H' → Sim K m' H' S1 → rel m' H' d x → Post K rel2 m1 H1 E (f d S1) Q2 → Q x H') : Post K rel m H E' r Q := by
  cases r with
  | ok d S' => exact fun v m' H' s q r => g d S' v m' H' s q r h
  | exc c fs S' => exact False.elim h
  | err => exact False.elim h
theorem iteT' {A B : Prop} (h : A) : if true = true then A else B := by rw [if_pos rfl]; exact h
theorem iteF' {A B : Prop} (h : B) : if false = true then A else B := by rw [if_neg Bool.false_ne_true]; exact h

section
variable {F : Type} {nm : F → Str} {cs : List (Str × D)} {np : F → Nat} {C : F → List D → Sto → R D} {X : Cx} {W : WX} {sc : Scope}

/-! ### plain expressions -/
theorem se_const {x : Ex F} {e : Expr} {d : D} {v : V} (p : PE X e (tC v)) (r : ∀ m H, RV X.K m H d v) (ev : ∀ env s, evE C x env s = .ok d s) : SE C X W x e :=
  ⟨_, p, fun {m S env σ H Q} q rs h => by rw [ev] at h; exact post_same h q (r m H)⟩
theorem se_var (so : ScOk X sc) {i : Nat} {x : Str} {p : Pos} (hN : X.N[i]? = some x) (hv : visB sc x = true) (ho : okN x = true) : SE C X W (.var i) (.Name x p) := by
  obtain ⟨h1, h2, _⟩ := okN_of ho
  refine ⟨_, pe_var hN (so.vis x hv) h1 h2, fun {m S env σ H Q} q rs h => ?_⟩
  rw [evE] at h
  split at h
  · rename_i d e
    obtain ⟨v, e1, r⟩ := rs.get i d e
    exact ⟨v, e1, post_same h q r⟩
  · exact h.elim
theorem se_bin {o : Bop} {a b : Ex F} {ea eb : Expr} {p : Pos} {r : R2} (ho : OpR X (binaryOp (bopE o)) r) (cov : ∀ {m H S E Q d e x y}, Sim X.K m H S → RV X.K m H d x → RV X.K m H e y → Post X.K (RV X.K) m H E (binOp o d e S) Q → r x y H Q)
    (ha : SE C X W a ea) (hb : SE C X W b eb) : SE C X W (.bin o a b) (.BinOp ea (bopE o) eb p) := by
  obtain ⟨ta, pa, ca⟩ := ha
  obtain ⟨tb, pb, cb⟩ := hb
  refine ⟨_, pe_op ho pa pb, fun {m S env σ H Q} q rs h => ?_⟩
  rw [evE] at h
  refine ca q rs (h.bind fun d S1 x m1 H1 s1 q1 r1 h1 => ?_)
  refine cb q1 (rs.mono s1 q) (h1.bind fun e S2 y m2 H2 s2 q2 r2 h2 => ?_)
  exact cov q2 (r1.mono s2 q1) r2 h2
theorem se_neg {a : Ex F} {ea : Expr} {p : Pos} (ha : SE C X W a ea) : SE C X W (.neg a) (.UnaryOp .USub ea p) := by
  obtain ⟨ta, pa, ca⟩ := ha
  refine ⟨_, pe_un un_neg pa, fun {m S env σ H Q} q rs h => ?_⟩
  rw [evE] at h
  refine ca q rs (h.bind fun d S1 x m1 H1 s1 q1 r1 h1 => ?_)
  split at h1
  · cases r1
    exact ⟨_, rfl, post_same h1 q1 (.int _)⟩
  · exact h1.elim
/-- a comparison's rule and what it covers -/
def CmpOk (X : Cx) (o : Cop) (r : R2) : Prop := OpR X (compareOp (copE o)) r ∧ ∀ {m H S E Q d e x y}, Sim X.K m H S → RV X.K m H d x → RV X.K m H e y → Post X.K (RV X.K) m H E (cmpOp o d e S) Q → r x y H Q
theorem cmp_ok (g : Good nm cs np C X W) : ∀ o, ∃ r, CmpOk X o r
  | .eq => ⟨_, op_eqA g.hu, fun q a b h => eq_cov q a b h⟩
  | .ne => ⟨_, op_neA g.hu, fun q a b h => ne_cov q a b h⟩
  | .lt => ⟨_, op_lt, fun q a b h => lt_cov q a b h⟩
  | .le => ⟨_, op_le', fun q a b h => le_cov q a b h⟩
  | .gt => ⟨_, op_gt, fun q a b h => gt_cov q a b h⟩
  | .ge => ⟨_, op_ge, fun q a b h => ge_cov q a b h⟩
  | .is => ⟨_, op_isN.or op_isTr, fun q a b h => is_cov q a b h⟩
  | .isnot => ⟨_, op_notN, fun q a b h => isnot_cov q a b h⟩
  | .in_ => ⟨_, (op_inA g.hu).or (op_hasD g.hu), fun q a b h => in_cov q a b h⟩
  | .notin => ⟨_, (op_notinA g.hu).or (op_hasntD g.hu), fun q a b h => notin_cov q a b h⟩
theorem behind_of {o : CmpOp} {e : Expr} (h : plainX e = true) : behindInMarks o e = false := by
  cases e <;> first | rfl | cases h
theorem se_cmp (g : Good nm cs np C X W) {o : Cop} {a b : Ex F} {ea eb : Expr} {p : Pos} (hp : plainX eb = true) (ha : SE C X W a ea) (hb : SE C X W b eb) : SE C X W (.cmp o a b) (.Compare ea [copE o] [eb] p) := by
  obtain ⟨ta, pa, ca⟩ := ha
  obtain ⟨tb, pb, cb⟩ := hb
  obtain ⟨r, hr, cov⟩ := cmp_ok g o
  refine ⟨_, pe_cmpR hr pa pb (behind_of hp), fun {m S env σ H Q} q rs h => ?_⟩
  rw [evE] at h
  refine ca q rs (h.bind fun d S1 x m1 H1 s1 q1 r1 h1 => ?_)
  refine cb q1 (rs.mono s1 q) (h1.bind fun e S2 y m2 H2 s2 q2 r2 h2 => ?_)
  exact cov q2 (r1.mono s2 q1) r2 h2
theorem st_cmp (g : Good nm cs np C X W) {o : Cop} {a b : Ex F} {ea eb : Expr} {p : Pos} (hp : plainX eb = true) (ha : SE C X W a ea) (hb : SE C X W b eb) : ST C X W (.cmp o a b) (.Compare ea [copE o] [eb] p) := by
  obtain ⟨ta, pa, ca⟩ := ha
  obtain ⟨tb, pb, cb⟩ := hb
  obtain ⟨r, hr, cov⟩ := cmp_ok g o
  refine ⟨_, pt_cmpR hr pa pb (behind_of hp), fun {m S env σ H Q} q rs h => ?_⟩
  rw [evT] at h
  refine ca q rs (h.bind fun d S1 x m1 H1 s1 q1 r1 h1 => ?_)
  refine cb q1 (rs.mono s1 q) (h1.bind fun e S2 y m2 H2 s2 q2 r2 h2 => ?_)
  refine cov q2 (r1.mono s2 q1) r2 (h2.bind fun z S3 u m3 H3 s3 q3 r3 h3 => ?_)
  split at h3
  · cases r3
    exact ⟨_, rfl, h3 _ _ _ Step.refl q3 rfl⟩
  · exact h3.elim
theorem last2 {o p : CmpOp} {b c : Expr} (h : plainX c = true) : lastMarks [o, p] [b, c] = false := by
  have e : lastMarks [o, p] [b, c] = behindInMarks p c := by with_unfolding_all rfl
  rw [e]; exact behind_of h
theorem se_cm2 (g : Good nm cs np C X W) {o p : Cop} {a b c : Ex F} {ea eb ec : Expr} {z : Pos} (hp : plainX ec = true) (ha : SE C X W a ea) (hb : SE C X W b eb) (hc : SE C X W c ec) : SE C X W (.cm2 o p a b c) (.Compare ea [copE o, copE p] [eb, ec] z) := by
  obtain ⟨ta, pa, ca⟩ := ha
  obtain ⟨tb, pb, cb⟩ := hb
  obtain ⟨tc, pc, cc⟩ := hc
  obtain ⟨r, hr, cov⟩ := cmp_ok g o
  obtain ⟨r', hr', cov'⟩ := cmp_ok g p
  refine ⟨_, pe_chain hr hr' pa pb pc (last2 hp), fun {m S env σ H Q} q rs h => ?_⟩
  rw [evE] at h
  refine ca q rs (h.bind fun d S1 x m1 H1 s1 q1 r1 h1 => ?_)
  have rs1 := rs.mono s1 q
  refine cb q1 rs1 (h1.bind fun e S2 y m2 H2 s2 q2 r2 h2 => ?_)
  have rs2 := rs1.mono s2 q1
  refine cov q2 (r1.mono s2 q1) r2 (h2.bind fun z S3 u m3 H3 s3 q3 r3 h3 => ?_)
  have rs3 := rs2.mono s3 q2
  split at h3
  · cases r3
    refine ⟨true, rfl, iteT' (cc q3 rs3 (h3.bind fun w S4 v m4 H4 s4 q4 r4 h4 => ?_))⟩
    exact cov' q4 ((r2.mono s3 q2).mono s4 q3) r4 h4
  · cases r3
    exact ⟨false, rfl, iteF' (post_same h3 q3 (.bl _))⟩
  · exact h3.elim
theorem st_cm2 (g : Good nm cs np C X W) {o p : Cop} {a b c : Ex F} {ea eb ec : Expr} {z : Pos} (hp : plainX ec = true) (ha : SE C X W a ea) (hb : SE C X W b eb) (hc : SE C X W c ec) : ST C X W (.cm2 o p a b c) (.Compare ea [copE o, copE p] [eb, ec] z) := by
  obtain ⟨ta, pa, ca⟩ := ha
  obtain ⟨tb, pb, cb⟩ := hb
  obtain ⟨tc, pc, cc⟩ := hc
  obtain ⟨r, hr, cov⟩ := cmp_ok g o
  obtain ⟨r', hr', cov'⟩ := cmp_ok g p
  refine ⟨_, pt_chain hr hr' pa pb pc (last2 hp), fun {m S env σ H Q} q rs h => ?_⟩
  rw [evT] at h
  refine ca q rs (h.bind fun d S1 x m1 H1 s1 q1 r1 h1 => ?_)
  have rs1 := rs.mono s1 q
  refine cb q1 rs1 (h1.bind fun e S2 y m2 H2 s2 q2 r2 h2 => ?_)
  have rs2 := rs1.mono s2 q1
  refine cov q2 (r1.mono s2 q1) r2 (h2.bind fun z S3 u m3 H3 s3 q3 r3 h3 => ?_)
  have rs3 := rs2.mono s3 q2
  split at h3
  · cases r3
    refine ⟨true, rfl, iteT' (cc q3 rs3 (h3.bind fun w S4 v m4 H4 s4 q4 r4 h4 => ?_))⟩
    refine cov' q4 ((r2.mono s3 q2).mono s4 q3) r4 (h4.bind fun w5 S5 v5 m5 H5 s5 q5 r5 h5 => ?_)
    split at h5
    · cases r5
      exact ⟨_, rfl, h5 _ _ _ Step.refl q5 rfl⟩
    · exact h5.elim
  · cases r3
    exact ⟨false, rfl, iteF' ⟨false, rfl, h3 _ _ _ Step.refl q3 rfl⟩⟩
  · exact h3.elim
def tChain3 (r r' r'' : R2) (ta tb tc td : TE) : TE := fun σ H Q => ta σ H fun x H1 => tb σ H1 fun y H2 => r x y H2 fun z H3 => ∃ k, z = .bl k ∧
  if k = true then tc σ H3 fun u H4 => r' y u H4 fun w H5 => ∃ l, w = .bl l ∧ if l = true then td σ H5 fun v H6 => r'' u v H6 Q else Q (.bl false) H5 else Q (.bl false) H3
theorem pe_chain3 {o1 o2 o3 : CmpOp} {r r' r'' : R2} {a b c d : Expr} {ta tb tc td : TE} {pos : Pos} (ho : OpR X (compareOp o1) r) (ho' : OpR X (compareOp o2) r') (ho'' : OpR X (compareOp o3) r'') (ha : PE X a ta) (hb : PE X b tb) (hc : PE X c tc) (hd : PE X d td)
    (hm : lastMarks [o1, o2, o3] [b, c, d] = false) : PE X (.Compare a [o1, o2, o3] [b, c, d] pos) (tChain3 r r' r'' ta tb tc td) := by
  refine ⟨fun pins s σ H Q I h => ?_⟩
  refine Compare_chain (thn (ha.run pins s σ H _ I h) fun v s1 ⟨x, H1, I1, r1, q1⟩ => chain_link (thn (hb.run pins s1 σ H1 _ I1 q1) fun u s2 ⟨y, H2, I2, r2, q2⟩ =>
    thn (ho pins s2 σ H2 x y v u _ I2 r1 r2 q2) fun e s3 ⟨z, H3, I3, r3, k, ek, q3⟩ => ?_)) hm
  subst ek
  cases r3
  refine wpAny_truthy_bool ?_
  cases k with
  | false => exact ite_ff ⟨.bl false, H3, I3, rfl, q3⟩
  | true =>
    refine ite_tt (chain_link (thn (hc.run pins s3 σ H3 _ I3 q3) fun w' s4 ⟨y4, H4, I4, r4, q4⟩ => thn (ho' pins s4 σ H4 y y4 u w' _ I4 r2 r4 q4) fun e5 s5 ⟨z5, H5, I5, r5, l, el, q5⟩ => ?_))
    subst el
    cases r5
    refine wpAny_truthy_bool ?_
    cases l with
    | false => exact ite_ff ⟨.bl false, H5, I5, rfl, q5⟩
    | true => exact ite_tt (chain_last (thn (hd.run pins s5 σ H5 _ I5 q5) fun w6 s6 ⟨y6, H6, I6, r6, q6⟩ => ho'' pins s6 σ H6 y4 y6 w' w6 Q I6 r4 r6 q6))
theorem se_cm3 (g : Good nm cs np C X W) {o p o3 : Cop} {a b c d : Ex F} {ea eb ec ed : Expr} {z : Pos} (hp : plainX ed = true) (ha : SE C X W a ea) (hb : SE C X W b eb) (hc : SE C X W c ec) (hd : SE C X W d ed) : SE C X W (.cm3 o p o3 a b c d) (.Compare ea [copE o, copE p, copE o3] [eb, ec, ed] z) := by
  obtain ⟨ta, pa, ca⟩ := ha
  obtain ⟨tb, pb, cb⟩ := hb
  obtain ⟨tc, pc, cc⟩ := hc
  obtain ⟨td, pd, cd⟩ := hd
  obtain ⟨r, hr, cov⟩ := cmp_ok g o
  obtain ⟨r', hr', cov'⟩ := cmp_ok g p
  obtain ⟨r'', hr'', cov''⟩ := cmp_ok g o3
  have hl : lastMarks [copE o, copE p, copE o3] [eb, ec, ed] = false := by
    have e : lastMarks [copE o, copE p, copE o3] [eb, ec, ed] = behindInMarks (copE o3) ed := by with_unfolding_all rfl
    rw [e]; exact behind_of hp
  refine ⟨_, pe_chain3 hr hr' hr'' pa pb pc pd hl, fun {m S env σ H Q} q rs h => ?_⟩
  rw [evE] at h
  refine ca q rs (h.bind fun d S1 x m1 H1 s1 q1 r1 h1 => ?_)
  have rs1 := rs.mono s1 q
  refine cb q1 rs1 (h1.bind fun e S2 y m2 H2 s2 q2 r2 h2 => ?_)
  have rs2 := rs1.mono s2 q1
  refine cov q2 (r1.mono s2 q1) r2 (h2.bind fun z S3 u m3 H3 s3 q3 r3 h3 => ?_)
  have rs3 := rs2.mono s3 q2
  split at h3
  · cases r3
    refine ⟨true, rfl, iteT' (cc q3 rs3 (h3.bind fun w S4 v m4 H4 s4 q4 r4 h4 => ?_))⟩
    have rs4 := rs3.mono s4 q3
    refine cov' q4 ((r2.mono s3 q2).mono s4 q3) r4 (h4.bind fun w5 S5 v5 m5 H5 s5 q5 r5 h5 => ?_)
    have rs5 := rs4.mono s5 q4
    split at h5
    · cases r5
      refine ⟨true, rfl, iteT' (cd q5 rs5 (h5.bind fun w6 S6 v6 m6 H6 s6 q6 r6 h6 => ?_))⟩
      exact cov'' q6 ((r4.mono s5 q4).mono s6 q5) r6 h6
    · cases r5
      exact ⟨false, rfl, iteF' (post_same h5 q5 (.bl _))⟩
    · exact h5.elim
  · cases r3
    exact ⟨false, rfl, iteF' (post_same h3 q3 (.bl _))⟩
  · exact h3.elim

/-! ### and, or, not -/
theorem se_one {x : Ex F} {e : Expr} {o : BoolOp} {p : Pos} (h : SE C X W x e) : SE C X W x (.BoolOp o [e] p) := by
  obtain ⟨t, pt, ct⟩ := h
  exact ⟨t, pe_one pt, ct⟩
theorem se_and {a b : Ex F} {e1 e2 : Expr} {r : List Expr} {p : Pos} (ha : SE C X W a e1) (hb : SE C X W b (.BoolOp .And (e2 :: r) p)) : SE C X W (.and a b) (.BoolOp .And (e1 :: e2 :: r) p) := by
  obtain ⟨ta, pa, ca⟩ := ha
  obtain ⟨tb, pb, cb⟩ := hb
  refine ⟨_, pe_and pa pb, fun {m S env σ H Q} q rs h => ?_⟩
  rw [evE] at h
  refine ca q rs (h.bind fun d S1 x m1 H1 s1 q1 r1 h1 => ?_)
  split at h1
  · cases r1
    exact ⟨true, rfl, iteT' (cb q1 (rs.mono s1 q) h1)⟩
  · cases r1
    exact ⟨false, rfl, iteF' (post_same h1 q1 (.bl _))⟩
  · exact h1.elim
theorem se_or {a b : Ex F} {e1 e2 : Expr} {r : List Expr} {p : Pos} (ha : SE C X W a e1) (hb : SE C X W b (.BoolOp .Or (e2 :: r) p)) : SE C X W (.or a b) (.BoolOp .Or (e1 :: e2 :: r) p) := by
  obtain ⟨ta, pa, ca⟩ := ha
  obtain ⟨tb, pb, cb⟩ := hb
  refine ⟨_, pe_or pa pb, fun {m S env σ H Q} q rs h => ?_⟩
  rw [evE] at h
  refine ca q rs (h.bind fun d S1 x m1 H1 s1 q1 r1 h1 => ?_)
  split at h1
  · cases r1
    exact ⟨true, rfl, iteT' (post_same h1 q1 (.bl _))⟩
  · cases r1
    exact ⟨false, rfl, iteF' (cb q1 (rs.mono s1 q) h1)⟩
  · exact h1.elim
theorem se_not {a : Ex F} {ea : Expr} {p : Pos} (ha : SE C X W a ea) : SE C X W (.not a) (.UnaryOp .Not ea p) := by
  obtain ⟨ta, pa, ca⟩ := ha
  refine ⟨_, pe_not pa, fun {m S env σ H Q} q rs h => ?_⟩
  rw [evE] at h
  refine ca q rs (h.bind fun d S1 x m1 H1 s1 q1 r1 h1 => ?_)
  split at h1
  · cases r1
    exact ⟨_, rfl, post_same h1 q1 (.bl _)⟩
  · exact h1.elim
theorem st_one_and {x : Ex F} {e : Expr} {p : Pos} (h : ST C X W x e) : ∃ t, PW X (.BoolOp .And [e] p) t ∧ ∀ {m : List Addr} {S : Sto} {env : Env} {σ : L2.St} {H : Hp} {Q : Bool → Hp → Prop}, Sim X.K m H S → RS X.K m H env σ → Post X.K relB m H (fun c d _ H' => W c d σ H') (evT C x env S) Q → t σ H Q := by
  obtain ⟨t, pt, ct⟩ := h
  exact ⟨t, pw_and1 pt, ct⟩
theorem st_one_or {x : Ex F} {e : Expr} {p : Pos} (h : ST C X W x e) : ∃ t, PW X (.BoolOp .Or [e] p) t ∧ ∀ {m : List Addr} {S : Sto} {env : Env} {σ : L2.St} {H : Hp} {Q : Bool → Hp → Prop}, Sim X.K m H S → RS X.K m H env σ → Post X.K relB m H (fun c d _ H' => W c d σ H') (evT C x env S) Q → t σ H Q := by
  obtain ⟨t, pt, ct⟩ := h
  exact ⟨t, pw_or1 pt, ct⟩
/-- a test whose whole is not asked -/
def SW (C : F → List D → Sto → R D) (X : Cx) (W : WX) (x : Ex F) (e : Expr) : Prop := ∃ t, PW X e t ∧ ∀ {m : List Addr} {S : Sto} {env : Env} {σ : L2.St} {H : Hp} {Q : Bool → Hp → Prop}, Sim X.K m H S → RS X.K m H env σ → Post X.K relB m H (fun c d _ H' => W c d σ H') (evT C x env S) Q → t σ H Q
theorem SW.st {x : Ex F} {e : Expr} (h : SW C X W x e) : ST C X W x e := by
  obtain ⟨t, pt, ct⟩ := h
  exact ⟨t, pt.pt, ct⟩
theorem sw_and {a b : Ex F} {e1 e2 : Expr} {r : List Expr} {p : Pos} (ha : ST C X W a e1) (hb : SW C X W b (.BoolOp .And (e2 :: r) p)) : SW C X W (.and a b) (.BoolOp .And (e1 :: e2 :: r) p) := by
  obtain ⟨ta, pa, ca⟩ := ha
  obtain ⟨tb, pb, cb⟩ := hb
  refine ⟨_, pw_and pa pb, fun {m S env σ H Q} q rs h => ?_⟩
  rw [evT] at h
  refine ca q rs (h.bind fun d S1 x m1 H1 s1 q1 r1 h1 => ?_)
  cases r1
  cases d with
  | true => exact iteT' (cb q1 (rs.mono s1 q) h1)
  | false => exact iteF' (h1 _ _ _ Step.refl q1 rfl)
theorem sw_or {a b : Ex F} {e1 e2 : Expr} {r : List Expr} {p : Pos} (ha : ST C X W a e1) (hb : SW C X W b (.BoolOp .Or (e2 :: r) p)) : SW C X W (.or a b) (.BoolOp .Or (e1 :: e2 :: r) p) := by
  obtain ⟨ta, pa, ca⟩ := ha
  obtain ⟨tb, pb, cb⟩ := hb
  refine ⟨_, pw_or pa pb, fun {m S env σ H Q} q rs h => ?_⟩
  rw [evT] at h
  refine ca q rs (h.bind fun d S1 x m1 H1 s1 q1 r1 h1 => ?_)
  cases r1
  cases d with
  | true => exact iteT' (h1 _ _ _ Step.refl q1 rfl)
  | false => exact iteF' (cb q1 (rs.mono s1 q) h1)
theorem st_not {a : Ex F} {ea : Expr} {p : Pos} (ha : ST C X W a ea) : ST C X W (.not a) (.UnaryOp .Not ea p) := by
  obtain ⟨ta, pa, ca⟩ := ha
  refine ⟨_, pt_not pa, fun {m S env σ H Q} q rs h => ?_⟩
  rw [evT] at h
  refine ca q rs (h.bind fun d S1 x m1 H1 s1 q1 r1 h1 => ?_)
  cases r1
  exact h1 _ _ _ Step.refl q1 rfl
theorem se_ite {c a b : Ex F} {ec ea eb : Expr} {p : Pos} (hc : ST C X W c ec) (ha : SE C X W a ea) (hb : SE C X W b eb) : SE C X W (.ite c a b) (.IfExp ec ea eb p) := by
  obtain ⟨tc, pc, cc⟩ := hc
  obtain ⟨ta, pa, ca⟩ := ha
  obtain ⟨tb, pb, cb⟩ := hb
  refine ⟨_, pe_ifExp pc pa pb, fun {m S env σ H Q} q rs h => ?_⟩
  rw [evE] at h
  refine cc q rs (h.bind fun d S1 x m1 H1 s1 q1 r1 h1 => ?_)
  cases r1
  cases d with
  | true => exact iteT' (ca q1 (rs.mono s1 q) h1)
  | false => exact iteF' (cb q1 (rs.mono s1 q) h1)

/-! ### displays, subscripts -/
theorem se_tup {xs : Exs F} {es : List Expr} {k : Nat} {p : Pos} (h : SA C X W xs es) : SE C X W (.tup xs) (.Tuple es k p) := by
  obtain ⟨t, pt, ct⟩ := h
  refine ⟨_, pe_tup pt, fun {m S env σ H Q} q rs h => ?_⟩
  rw [evE] at h
  refine ct q rs (h.bind fun d S1 x m1 H1 s1 q1 r1 h1 => ?_)
  obtain ⟨c, h1⟩ := when_post h1
  rw [lim_eq, r1.length] at c
  exact ⟨of_decide_eq_true c, post_tup h1 q1 r1⟩
theorem se_lst {xs : Exs F} {es : List Expr} {p : Pos} (h : SA C X W xs es) : SE C X W (.lst xs) (.List es p) := by
  obtain ⟨t, pt, ct⟩ := h
  refine ⟨_, pe_lst pt, fun {m S env σ H Q} q rs h => ?_⟩
  rw [evE] at h
  refine ct q rs (h.bind fun d S1 x m1 H1 s1 q1 r1 h1 => ?_)
  obtain ⟨c, h1⟩ := when_post h1
  rw [lim_eq, r1.length] at c
  exact ⟨of_decide_eq_true c, post_alloc h1 q1 r1⟩
theorem plainIx {e : Expr} (h : plainX e = true) : PlainIx e := by
  intro o i
  cases e <;> first | rfl | cases h
theorem se_idx (g : Good nm cs np C X W) {a i : Ex F} {ea ei : Expr} {p : Pos} (hp : plainX ei = true) (ha : SE C X W a ea) (hi : SE C X W i ei) : SE C X W (.idx a i) (.Subscript ea ei p) := by
  obtain ⟨ta, pa, ca⟩ := ha
  obtain ⟨tb, pb, cb⟩ := hi
  refine ⟨_, pe_ix (ix_seq.or (ix_dct g.hu)) pa pb (plainIx hp), fun {m S env σ H Q} q rs h => ?_⟩
  rw [evE] at h
  refine ca q rs (h.bind fun d S1 x m1 H1 s1 q1 r1 h1 => ?_)
  refine cb q1 (rs.mono s1 q) (h1.bind fun e S2 y m2 H2 s2 q2 r2 h2 => ?_)
  exact idx_cov q2 (r1.mono s2 q1) r2 h2
theorem se_slc {a : Ex F} {lo hi : OEx F} {ea : Expr} {l u : Option Expr} {p2 p : Pos} (ha : SE C X W a ea) (hl : SO C X W lo l) (hu : SO C X W hi u) : SE C X W (.slc a lo hi) (.Subscript ea (.Slice l u none p2) p) := by
  obtain ⟨ta, pa, ca⟩ := ha
  obtain ⟨tl, pl, cl⟩ := hl
  obtain ⟨tu, pu, cu⟩ := hu
  refine ⟨_, pe_slice sl_any pa pl pu, fun {m S env σ H Q} q rs h => ?_⟩
  rw [evE] at h
  refine ca q rs (h.bind fun d S1 x m1 H1 s1 q1 r1 h1 => ?_)
  refine cl q1 (rs.mono s1 q) (h1.bind fun e S2 y m2 H2 s2 q2 r2 h2 => ?_)
  refine cu q2 ((rs.mono s1 q).mono s2 q1) (h2.bind fun e3 S3 y3 m3 H3 s3 q3 r3 h3 => ?_)
  cases r2
  cases r3
  exact slc_cov q3 ((r1.mono s2 q1).mono s3 q2) h3
end
end SB
end

section
set_option maxHeartbeats 4000000
namespace SB
open PySem PySem.Spec PyProof.Rows L2

section
variable {F : Type} {nm : F → Str} {cs : List (Str × D)} {np : F → Nat} {C : F → List D → Sto → R D} {X : Cx} {W : WX} {sc : Scope}

/-! ### argument lists -/
theorem star_plain {e : Expr} {es : List Expr} (h : plainX e = true) : starEach (e :: es) X.env = (false, eval e X.env) :: starEach es X.env := by
  cases e <;> first | rfl | cases h
theorem star_any {pos : Pos} : ∀ {es : List Expr}, es.all plainX = true → (backTo pos (starEach es X.env)).any (·.1) = false
  | [], _ => rfl
  | e :: es, h => by
    rw [List.all_cons, Bool.and_eq_true] at h
    rw [star_plain h.1]
    show (false || (backTo pos (starEach es X.env)).any (·.1)) = false
    rw [star_any h.2]; rfl
theorem plain_all : ∀ {xs : Exs F} {es : List Expr}, mtEs nm cs X.N sc xs es = true → es.all plainX = true
  | .nil, [], _ => rfl
  | .nil, _ :: _, h => by simp [mtEs] at h
  | .cons _ _, [], h => by simp [mtEs] at h
  | .cons x xs, e :: es, h => by
    simp only [mtEs, Bool.and_eq_true] at h
    rw [List.all_cons, h.1, plain_all h.2.2]; rfl
theorem sa_nil : SA C X W .nil [] := ⟨_, pa_nil, fun {m S env σ H Q} q rs h => by
  rw [evEs] at h
  exact h _ _ _ Step.refl q .nil⟩
theorem sa_cons {x : Ex F} {xs : Exs F} {e : Expr} {es : List Expr} (hp : plainX e = true) (hx : SE C X W x e) (hs : SA C X W xs es) : SA C X W (.cons x xs) (e :: es) := by
  obtain ⟨ta, pa, ca⟩ := hx
  obtain ⟨tb, pb, cb⟩ := hs
  refine ⟨_, pa_cons pa pb (star_plain hp), fun {m S env σ H Q} q rs h => ?_⟩
  rw [evEs] at h
  refine ca q rs (h.bind fun d S1 x m1 H1 s1 q1 r1 h1 => ?_)
  refine cb q1 (rs.mono s1 q) (h1.bind fun e S2 y m2 H2 s2 q2 r2 h2 => ?_)
  exact h2 _ _ _ Step.refl q2 (.cons (r1.mono s2 q1) r2)
theorem so_none : SO C X W .none none := ⟨_, po_none, fun {m S env σ H Q} q rs h => by
  rw [evO] at h
  exact h _ _ _ Step.refl q rfl⟩
theorem so_some {x : Ex F} {e : Expr} (hx : SE C X W x e) : SO C X W (.some x) (some e) := by
  obtain ⟨ta, pa, ca⟩ := hx
  refine ⟨_, po_some pa, fun {m S env σ H Q} q rs h => ?_⟩
  rw [evO] at h
  refine ca q rs (h.bind fun d S1 x m1 H1 s1 q1 r1 h1 => ?_)
  split at h1
  · cases r1
    exact ⟨_, rfl, h1 _ _ _ Step.refl q1 rfl⟩
  · exact h1.elim

/-! ### calls -/
theorem post_call {m : List Addr} {S : Sto} {H : Hp} {Q : VK} {σ : L2.St} {ds : List D} {vs : List V} {Cf : List D → Sto → R D} (q : Sim X.K m H S) (r : RVs X.K m H ds vs) (h : Post X.K (RV X.K) m H (fun c d _ H' => W c d σ H') (Cf ds S) Q) :
    spF X.K Cf vs H Q (WE W σ) := ⟨m, S, ds, q, r, h⟩
theorem se_call (g : Good nm cs np C X W) (so : ScOk X sc) {f : F} {xs : Exs F} {e1 : Expr} {es : List Expr} {p z : Pos} (hg : glB sc (nm f) = true) (ho : okN (nm f) = true) (hp : (e1 :: es).all plainX = true) (h : SA C X W xs (e1 :: es)) :
    SE C X W (.call f xs) (.Call (.Name (nm f) p) (e1 :: es) [] z) := by
  obtain ⟨t, pt, ct⟩ := h
  obtain ⟨k, rm, fk⟩ := g.k
  obtain ⟨fd, ps, hb, hn, ok⟩ := (fk f).ex
  obtain ⟨hm, hk⟩ := g.glob.fn f
  rw [List.all_cons, Bool.and_eq_true] at hp
  refine ⟨_, pe_callS ok rm (so.gl _ hg) hm hk hb (fun σ => passAt g.tk σ) pt (okN_of ho).1 (star_plain hp.1) (star_any hp.2), fun {m S env σ H Q} q rs h => ?_⟩
  rw [evE] at h
  exact ct q rs (h.bind fun d S1 x m1 H1 s1 q1 r1 h1 => post_call q1 r1 h1)
/-! ### built-ins -/
theorem bn_free (g : Good nm cs np C X W) {x : Str} (h : x ∈ bNames) : X.mg x = none := g.glob.free x h
theorem se_blt1 (g : Good nm cs np C X W) (so : ScOk X sc) {f : Bn} {id : String} {r : RB} (hc : CallR X (.builtin id) r) (hv : bootBuiltins (bnS f) = some (.builtin id)) (hin : bnS f ∈ bNames)
    (cov : ∀ {m H S E Q ds xs}, Sim X.K m H S → RVs X.K m H ds xs → Post X.K (RV X.K) m H E (bltOp f ds S) Q → r xs H Q)
    {xs : Exs F} {e1 : Expr} {es : List Expr} {p z : Pos} (hg : glB sc (bnS f) = true) (ho : okN (bnS f) = true) (hp : (e1 :: es).all plainX = true) (h : SA C X W xs (e1 :: es)) : SE C X W (.blt f xs) (.Call (.Name (bnS f) p) (e1 :: es) [] z) := by
  obtain ⟨t, pt, ct⟩ := h
  rw [List.all_cons, Bool.and_eq_true] at hp
  obtain ⟨o1, o2, o3⟩ := okN_of ho
  refine ⟨_, pe_callB hc (so.gl _ hg) (bn_free g hin) hv pt o3 o1 (star_plain hp.1) (star_any hp.2), fun {m S env σ H Q} q rs h => ?_⟩
  rw [evE] at h
  exact ct q rs (h.bind fun d S1 x m1 H1 s1 q1 r1 h1 => cov q1 r1 h1)
theorem se_blt2 (g : Good nm cs np C X W) (so : ScOk X sc) {f : Bn} {id : String} {r : RB} (hc : CallR X (.type id) r) (hv : bootBuiltins (bnS f) = some (.type id)) (hin : bnS f ∈ bNames)
    (cov : ∀ {m H S E Q ds xs}, Sim X.K m H S → RVs X.K m H ds xs → Post X.K (RV X.K) m H E (bltOp f ds S) Q → r xs H Q)
    {xs : Exs F} {e1 : Expr} {es : List Expr} {p z : Pos} (hg : glB sc (bnS f) = true) (ho : okN (bnS f) = true) (hp : (e1 :: es).all plainX = true) (h : SA C X W xs (e1 :: es)) : SE C X W (.blt f xs) (.Call (.Name (bnS f) p) (e1 :: es) [] z) := by
  obtain ⟨t, pt, ct⟩ := h
  rw [List.all_cons, Bool.and_eq_true] at hp
  obtain ⟨o1, o2, o3⟩ := okN_of ho
  refine ⟨_, pe_callTy hc (so.gl _ hg) (bn_free g hin) hv pt o3 o1 (star_plain hp.1) (star_any hp.2), fun {m S env σ H Q} q rs h => ?_⟩
  rw [evE] at h
  exact ct q rs (h.bind fun d S1 x m1 H1 s1 q1 r1 h1 => cov q1 r1 h1)
theorem se_blt (g : Good nm cs np C X W) (so : ScOk X sc) {f : Bn} {xs : Exs F} {e1 : Expr} {es : List Expr} {p z : Pos} (hg : glB sc (bnS f) = true) (ho : okN (bnS f) = true) (hp : (e1 :: es).all plainX = true) (h : SA C X W xs (e1 :: es)) : SE C X W (.blt f xs) (.Call (.Name (bnS f) p) (e1 :: es) [] z) := by
  cases f with
  | len => exact se_blt1 g so call_lenA (by decide +kernel) (by decide +kernel) (fun q r h => len_cov q r h) hg ho hp h
  | abs => exact se_blt1 g so call_abs (by decide +kernel) (by decide +kernel) (fun q r h => abs_cov q r h) hg ho hp h
  | min => exact se_blt1 g so (call_min2 g.calm) (by decide +kernel) (by decide +kernel) (fun q r h => min_cov q r h) hg ho hp h
  | max => exact se_blt1 g so (call_max2 g.calm) (by decide +kernel) (by decide +kernel) (fun q r h => max_cov q r h) hg ho hp h
  | ord => exact se_blt1 g so call_ord (by decide +kernel) (by decide +kernel) (fun q r h => ord_cov q r h) hg ho hp h
  | tuple => exact se_blt2 g so call_tuple_of (by decide +kernel) (by decide +kernel) (fun q r h => tuple_cov q r h) hg ho hp h
  | list => exact se_blt2 g so call_list_of (by decide +kernel) (by decide +kernel) (fun q r h => list_cov q r h) hg ho hp h
  | int_ => exact se_blt2 g so call_int1 (by decide +kernel) (by decide +kernel) (fun q r h => int_cov q r h) hg ho hp h
/-! ### methods -/
theorem base_of {eo : Expr} {x : Str} (h : noCall eo = true) : attributeBase eo x X.env (eval eo X.env) = eval eo X.env := by
  cases eo <;> first | rfl | cases h
theorem se_append {o y : Ex F} {eo e1 : Expr} {ap z : Pos} (hc : noCall eo = true) (hl : (ap.endLine == z.line) = true) (hp : plainX e1 = true) (ho : SE C X W o eo) (hy : SE C X W y e1) : SE C X W (.met .append o y) (.Call (.Attribute eo (Str.ofString (mnN .append)) ap) [e1] [] z) := by
  obtain ⟨ta, pa, ca⟩ := ho
  obtain ⟨tb, pb, cb⟩ := hy
  have hs : starEach [e1] X.env = (false, eval e1 X.env) :: starEach [] X.env := star_plain hp
  refine ⟨_, pe_bm (name := Str.ofString (mnN .append)) PySem.F.plainAttrs_list PySem.F.slot_list_append PySem.F.type_list_append mt_append pa (pa_cons pb pa_nil hs) (base_of hc) (by rw [hs]; rfl) hl hs rfl, fun {m S env σ H Q} q rs h => ?_⟩
  rw [evE] at h
  refine ca q rs (h.bind fun d S1 x m1 H1 s1 q1 r1 h1 => ?_)
  obtain ⟨c, h1⟩ := when_post h1
  cases r1 with
  | @ref p a ex =>
    have c' : (lstAt S1 p).isSome = true := c
    cases hl1 : lstAt S1 p with
    | none => rw [hl1] at c'; cases c'
    | some l =>
      obtain ⟨xs, ha, _⟩ := q1.at_ ex hl1
      refine ⟨.inl ⟨rfl, xs, .of ha⟩, ?_⟩
      exact cb q1 (rs.mono s1 q) (h1.bind fun e S2 y m2 H2 s2 q2 r2 h2 => append_cov q2 (RV.mono s2 q1 (.ref ex)) r2 h2)
  | _ => cases c
theorem se_join {o y : Ex F} {eo e1 : Expr} {ap z : Pos} (hc : noCall eo = true) (hl : (ap.endLine == z.line) = true) (hp : plainX e1 = true) (ho : SE C X W o eo) (hy : SE C X W y e1) : SE C X W (.met .join o y) (.Call (.Attribute eo (Str.ofString (mnN .join)) ap) [e1] [] z) := by
  obtain ⟨ta, pa, ca⟩ := ho
  obtain ⟨tb, pb, cb⟩ := hy
  have hs : starEach [e1] X.env = (false, eval e1 X.env) :: starEach [] X.env := star_plain hp
  refine ⟨_, pe_join (apos := ap) (pos := z) pa pb hs (base_of hc) hl, fun {m S env σ H Q} q rs h => ?_⟩
  rw [evE] at h
  refine ca q rs (h.bind fun d S1 x m1 H1 s1 q1 r1 h1 => ?_)
  obtain ⟨c, h1⟩ := when_post h1
  cases r1 with
  | str hz =>
    refine ⟨⟨_, rfl⟩, cb q1 (rs.mono s1 q) (h1.bind fun e S2 y m2 H2 s2 q2 r2 h2 => ?_)⟩
    obtain ⟨a, p, ys, e1, e2, e3, e4, e5⟩ := join_cov q2 (.str hz) r2 h2
    subst e2
    exact ⟨a, p, ys, e1, rfl, e3, e4, e5⟩
  | _ => cases c
theorem se_isi (g : Good nm cs np C X W) (so : ScOk X sc) {a : Ex F} {t : Ty} {e1 : Expr} {p p2 z : Pos} (hg : glB sc (Str.ofString "isinstance") = true) (hg2 : glB sc (tyS t) = true) (hp : plainX e1 = true) (ha : SE C X W a e1) :
    SE C X W (.isi a t) (.Call (.Name (Str.ofString "isinstance") p) [e1, .Name (tyS t) p2] [] z) := by
  obtain ⟨ta, pa, ca⟩ := ha
  have pt : PE X (.Name (tyS t) p2) (tC (.ty (tyN t))) := by
    cases t <;> exact pe_bltn (so.gl _ hg2) (bn_free g (by decide +kernel)) (by decide +kernel) rfl
  have hs : starEach [e1, .Name (tyS t) p2] X.env = (false, eval e1 X.env) :: starEach [.Name (tyS t) p2] X.env := star_plain hp
  refine ⟨_, pe_callB call_isi (so.gl _ hg) (bn_free g (by decide +kernel)) (by decide +kernel) (pa_cons pa (pa_cons pt pa_nil) hs) (by decide) (by decide) hs rfl, fun {m S env σ H Q} q rs h => ?_⟩
  rw [evE] at h
  refine ca q rs (h.bind fun d S1 x m1 H1 s1 q1 r1 h1 => ?_)
  split at h1
  · rename_i b hb
    obtain ⟨ty, tx, kb⟩ := isi_cov r1 hb
    exact ⟨x, _, _, _, b, rfl, .ty _, tx, kit_ty kb, post_same h1 q1 (.bl _)⟩
  · exact h1.elim
/-! ### tests of values -/
theorem st_val {x : Ex F} {e : Expr} (ht : ∀ whole, isTrue e X.env whole = (do let v ← whole; standAt e.pos; holding [v] (truthy v)))
    (he : ∀ env S, evT C x env S = (evE C x env S).bind truR) (h : SE C X W x e) : ST C X W x e := by
  obtain ⟨t, pt, ct⟩ := h
  refine ⟨_, pt_truth pt ht, fun {m S env σ H Q} q rs h => ?_⟩
  rw [he] at h
  refine ct q rs (h.bind fun d S1 x m1 H1 s1 q1 r1 h1 => ?_)
  unfold truR at h1
  split at h1
  · rename_i k hk
    exact ⟨k, truth_cov q1 r1 hk, h1 _ _ _ Step.refl q1 rfl⟩
  · exact h1.elim
theorem st_isi {a : Ex F} {t : Ty} {f : Expr} {es : List Expr} {ks : List Keyword} {z : Pos} (h : SE C X W (.isi a t) (.Call f es ks z)) : ST C X W (.isi a t) (.Call f es ks z) := by
  obtain ⟨t', pt, ct⟩ := h
  refine ⟨_, pt_val pt, fun {m S env σ H Q} q rs h => ?_⟩
  rw [evT] at h
  refine ct q rs ?_
  rw [evE]
  cases hr : evE C a env S with
  | ok d S1 =>
    rw [hr] at h
    have h' : Post X.K relB m H (fun c d _ H' => W c d σ H') (match isTy t d with | some b => .ok b S1 | none => .err) Q := h
    show Post X.K (RV X.K) m H (fun c d _ H' => W c d σ H') (match isTy t d with | some b => .ok (.bl b) S1 | none => .err) _
    split at h'
    · rename_i b hb
      exact fun v m' H' s q r => by cases r; exact ⟨b, rfl, h' _ _ _ s q rfl⟩
    · exact h'.elim
  | exc c fs S1 => rw [hr] at h; exact h
  | err => rw [hr] at h; exact h.elim
end
end SB
end

section
set_option maxHeartbeats 4000000
namespace SB
open PySem PySem.Spec PyProof.Rows L2

section
variable {F : Type} {nm : F → Str} {cs : List (Str × D)} {np : F → Nat} {C : F → List D → Sto → R D} {X : Cx} {W : WX} {sc : Scope}

/-! ### what is walked -/
theorem PI.or {tg e : Expr} {t u : TI} (a : PI X tg e t) (b : PI X tg e u) : PI X tg e (fun σ H R => t σ H R ∨ u σ H R) :=
  ⟨fun pins s σ H R I h => h.elim (a.run pins s σ H R I) (b.run pins s σ H R I)⟩
theorem folded_of {e : Expr} (h : plainX e = true) (v : Value) : foldedSetIterable e X.env v = pure v := by
  cases e <;> first | rfl | cases h
theorem RVs.nth {K : PySem.W.Frag} {m : List Addr} {H : Hp} {l : List D} {xs : List V} (r : RVs K m H l xs) {i : Nat} {d : D} (h : l[i]? = some d) : ∃ x, xs[i]? = some x ∧ RV K m H d x := r.get h
theorem walk_tup {m : List Addr} {H : Hp} {S : Sto} {l : List D} {a : Addr} {xs : List V} (q : Sim X.K m H S) (t : SqT X.K H a xs) (r : RVs X.K m H l xs) : Walk X.K m H (l, none) (Itt X.K a) := fun m1 H1 S1 s1 q1 _ => by
  have t1 := s1.sqT q t
  have r1 := r.mono s1 q
  refine ⟨fun i d h => ?_, ⟨xs, t1, by rw [r1.length]; exact Nat.le_refl _⟩⟩
  obtain ⟨x, e, rx⟩ := r1.get h
  refine ⟨⟨xs, x, t1, e⟩, fun y H' yl => ?_⟩
  obtain ⟨rfl, hy⟩ := yl
  have e2 := hy xs t1
  rw [e] at e2
  cases e2
  exact ⟨Step.refl, q1, rx⟩
theorem walk_lst {m : List Addr} {H : Hp} {S : Sto} {l : List D} {p : Nat} {a : Addr} (q : Sim X.K m H S) (h : m[p]? = some a) : Walk X.K m H (l, some (p, l)) (Itl X.K a) := fun m1 H1 S1 s1 q1 w => by
  have w' : lstAt S1 p = some l := of_decide_eq_true w
  obtain ⟨xs, ha, r1⟩ := q1.at_ (s1.get h) w'
  refine ⟨fun i d hd => ?_, ⟨xs, .of ha, by rw [r1.length]; exact Nat.le_refl _⟩⟩
  obtain ⟨x, e, rx⟩ := r1.get hd
  refine ⟨⟨xs, x, .of ha, e⟩, fun y H' yl => ?_⟩
  obtain ⟨rfl, hy⟩ := yl
  have e2 := hy xs (.of ha)
  rw [e] at e2
  cases e2
  exact ⟨Step.refl, q1, rx⟩
theorem strOk_ch {z : Str} (h : PyData.strOk z = true) {c : Nat} (hc : c ∈ z.cps.toList) : PyData.strOk ⟨#[c]⟩ = true := by
  unfold PyData.strOk at h ⊢
  rw [← Array.all_toList] at h
  have hm := List.all_eq_true.mp h c hc
  simpa using hm
theorem walk_str {m : List Addr} {H : Hp} {z : Str} (hz : PyData.strOk z = true) : Walk X.K m H (z.cps.toList.map fun c => D.str ⟨#[c]⟩, none) (Its z) := fun m1 H1 S1 s1 q1 _ => by
  refine ⟨fun i d h => ?_, ?_⟩
  · rw [List.getElem?_map, Option.map_eq_some_iff] at h
    obtain ⟨c, hc, rfl⟩ := h
    have hl := (List.getElem?_eq_some_iff.mp hc).1
    refine ⟨(show i < z.cps.size by simpa using hl), fun y H' yl => ?_⟩
    obtain ⟨rfl, c', e1, rfl⟩ := yl
    have e2 : z.cps[i]? = some c := by simpa using hc
    rw [e2] at e1
    cases e1
    exact ⟨Step.refl, q1, .str (strOk_ch hz (List.mem_of_getElem? hc))⟩
  · show z.cps.size ≤ _
    simp
theorem rangeD_get : ∀ (n : Nat) (lo : Int) (i : Nat) (d : D), (rangeD lo n)[i]? = some d → d = .int (lo + i) ∧ i < n
  | 0, _, _, _, h => by simp [rangeD] at h
  | n + 1, lo, 0, d, h => by simp [rangeD] at h; subst h; exact ⟨by simp, Nat.succ_pos _⟩
  | n + 1, lo, i + 1, d, h => by
    have h' : (rangeD (lo + 1) n)[i]? = some d := by simpa [rangeD] using h
    obtain ⟨e, hl⟩ := rangeD_get n (lo + 1) i d h'
    refine ⟨by rw [e]; congr 1; omega, Nat.succ_lt_succ hl⟩
theorem rangeD_len : ∀ (n : Nat) (lo : Int), (rangeD lo n).length = n
  | 0, _ => rfl
  | n + 1, lo => by simp [rangeD, rangeD_len n]
theorem walk_rng {m : List Addr} {H : Hp} {lo : Int} {n : Nat} : Walk X.K m H (rangeD lo n, none) (Itr lo n) := fun m1 H1 S1 s1 q1 _ => by
  refine ⟨fun i d h => ?_, by show n ≤ _; rw [rangeD_len]; exact Nat.le_refl _⟩
  obtain ⟨rfl, hl⟩ := rangeD_get n lo i d h
  refine ⟨hl, fun y H' yl => ?_⟩
  obtain ⟨rfl, rfl⟩ := yl
  exact ⟨Step.refl, q1, .int _⟩
theorem si_ex {x : Ex F} {e : Expr} (hp : plainX e = true) (h : SE C X W x e) : SI C X W (.ex x) e := by
  obtain ⟨t, pt, ct⟩ := h
  refine ⟨folded_of hp, _, fun tg => PI.or (pi_tup pt) (PI.or (pi_list pt) (pi_str pt)), fun {m S env σ H R} q rs h => ?_⟩
  rw [evIt] at h
  cases hr : evE C x env S with
  | err => rw [hr] at h; exact h.elim
  | exc c fs S1 => rw [hr] at h; exact .inl (ct q rs (by rw [hr]; exact h))
  | ok d S1 =>
    rw [hr] at h
    have h' : Post X.K (Walk X.K) m H (fun c d _ H' => W c d σ H') (itemsOf d S1) R := h
    unfold itemsOf at h'
    split at h'
    · refine .inl (ct q rs (by
        rw [hr]
        intro v m' H' s q' r
        cases r with
        | tup tt rr => exact ⟨_, rfl, ⟨_, tt⟩, h' _ m' H' s q' (walk_tup q' tt rr)⟩))
    · split at h'
      · rename_i p l hl
        refine .inr (.inl (ct q rs (by
          rw [hr]
          intro v m' H' s q' r
          cases r with
          | ref ex =>
            obtain ⟨xs, ha, _⟩ := q'.at_ ex hl
            exact ⟨_, rfl, ⟨xs, .of ha⟩, h' _ m' H' s q' (walk_lst q' ex)⟩)))
      · exact h'.elim
    · refine .inr (.inr (ct q rs (by
        rw [hr]
        intro v m' H' s q' r
        cases r with
        | str hz => exact ⟨_, rfl, h' _ m' H' s q' (walk_str hz)⟩)))
    · exact h'.elim
theorem si_rng1 (g : Good nm cs np C X W) (so : ScOk X sc) {a : Ex F} {e : Expr} {p z : Pos} (hg : glB sc (Str.ofString "range") = true) (hp : plainX e = true) (h : SE C X W a e) : SI C X W (.rng1 a) (.Call (.Name (Str.ofString "range") p) [e] [] z) := by
  obtain ⟨t, pt, ct⟩ := h
  have hs : starEach [e] X.env = (false, eval e X.env) :: starEach [] X.env := star_plain hp
  refine ⟨fun _ => rfl, _, fun tg => pi_range1 (so.gl _ hg) (bn_free g (by decide +kernel)) (pa_cons pt pa_nil hs) hs, fun {m S env σ H R} q rs h => ?_⟩
  rw [evIt] at h
  refine ct q rs (h.bind fun d S1 x m1 H1 s1 q1 r1 h1 => ?_)
  cases r1 with
  | int i =>
    obtain ⟨c, h1⟩ := when_post (show Post X.K (Walk X.K) m1 H1 (fun c d _ H' => W c d σ H') (when (midI 0 && midI i) (.ok (rangeD 0 (i - 0).toNat, none) S1)) R from h1)
    rw [Bool.and_eq_true] at c
    have c2 := of_decide_eq_true c.2
    refine ⟨_, rfl, c2.1, c2.2, ?_⟩
    rw [Int.sub_zero] at h1
    exact h1 _ _ _ Step.refl q1 walk_rng
  | _ => exact h1.elim
theorem si_rng2 (g : Good nm cs np C X W) (so : ScOk X sc) {a b : Ex F} {e e2 : Expr} {p z : Pos} (hg : glB sc (Str.ofString "range") = true) (hp : plainX e = true) (hp2 : plainX e2 = true) (ha : SE C X W a e) (hb : SE C X W b e2) :
    SI C X W (.rng2 a b) (.Call (.Name (Str.ofString "range") p) [e, e2] [] z) := by
  obtain ⟨t, pt, ct⟩ := ha
  obtain ⟨u, pu, cu⟩ := hb
  have hs : starEach [e, e2] X.env = (false, eval e X.env) :: starEach [e2] X.env := star_plain hp
  have hs2 : starEach [e2] X.env = (false, eval e2 X.env) :: starEach [] X.env := star_plain hp2
  refine ⟨fun _ => rfl, _, fun tg => pi_range2 (so.gl _ hg) (bn_free g (by decide +kernel)) (pa_cons pt (pa_cons pu pa_nil hs2) hs) (by rw [hs, hs2]; rfl) hs2, fun {m S env σ H R} q rs h => ?_⟩
  rw [evIt] at h
  refine ct q rs (h.bind fun d S1 x m1 H1 s1 q1 r1 h1 => ?_)
  refine cu q1 (rs.mono s1 q) (h1.bind fun d2 S2 x2 m2 H2 s2 q2 r2 h2 => ?_)
  unfold rngOf at h2
  split at h2
  · cases r1
    cases r2
    obtain ⟨c, h2⟩ := when_post h2
    rw [Bool.and_eq_true] at c
    have c1 := of_decide_eq_true c.1
    have c2 := of_decide_eq_true c.2
    exact ⟨_, _, rfl, ⟨c1.1, c1.2, c2.1, c2.2⟩, h2 _ _ _ Step.refl q2 walk_rng⟩
  · exact h2.elim

/-! ### comprehensions -/
theorem own_ix {N : List Str} : ∀ tg : List Nat, (ownOf N tg).map (·.2) = tg
  | [] => rfl
  | i :: r => by
    show i :: (ownOf N r).map (·.2) = i :: r
    rw [own_ix r]
/-- blkC of the written scope, for the scope that runs -/
theorem blk_of (so : ScOk X sc) {N : List Str} {scope : Scope} {own : List (Str × Nat)} (h : blkC N sc scope own = true) : BlkOk N X.env.scope scope own := by
  have b := blkOk_by h
  exact ⟨b.kind, b.uniq, b.ix, fun y hy e => so.cf _ (b.free y hy e), b.own⟩
/-- what a comprehension's parts must be, in a block -/
structure LcOk (C : F → List D → Sto → R D) (X : Cx) (scope : Scope) (tg : List Nat) (one : Bool) (x : Ex F) (c : OEx F) (te elt : Expr) (ifs : List Expr) : Prop where
  ex : ∃ (gt : TG) (tt : TT) (t : TE),
    (∀ (s : Shared) (H : Hp) (Cc : Addr) (cl : List (Str × Addr)) (fp : List Addr), PG (X.blk s H scope (compEnvC scope cl Cc X.env) fp) te gt) ∧
    (∀ (s : Shared) (H : Hp) (Cc : Addr) (cl : List (Str × Addr)) (fp : List Addr), PTs (X.blk s H scope (compEnvC scope cl Cc X.env) fp) ifs tt) ∧
    (∀ (s : Shared) (H : Hp) (Cc : Addr) (cl : List (Str × Addr)) (fp : List Addr), PE (X.blk s H scope (compEnvC scope cl Cc X.env) fp) elt t) ∧
    (∀ {m : List Addr} {H : Hp} {d : D} {v : V} {env env' : Env} {σ : L2.St} {Q : L2.St → Hp → Prop}, RV X.K m H d v → RS X.K m H env σ → bindT tg one d env = some env' →
      (∀ σ', RS X.K m H env' σ' → σ'.length = σ.length → (∀ i : Nat, i ∉ tg → σ'[i]? = σ[i]?) → Q σ' H) → gt v σ H Q) ∧
    (∀ {m : List Addr} {S : Sto} {env : Env} {σ : L2.St} {H : Hp} {Q : Bool → Hp → Prop}, Sim X.K m H S → RS X.K m H env σ → Post X.K relB m H (fun _ _ _ _ => False) (evC C c env S) Q → tt σ H Q) ∧
    (∀ {m : List Addr} {S : Sto} {env : Env} {σ : L2.St} {H : Hp} {Q : VK}, Sim X.K m H S → RS X.K m H env σ → Post X.K (RV X.K) m H (fun _ _ _ _ => False) (evE C x env S) Q → t σ H Q)
theorem R.cgr {α β : Type} {r : R α} {f g : α → Sto → R β} (h : ∀ x s, f x s = g x s) : r.bind f = r.bind g := by
  have e : f = g := funext fun x => funext fun s => h x s
  rw [e]
theorem R.assoc {α β γ : Type} (r : R α) (f : α → Sto → R β) (g : β → Sto → R γ) : (r.bind f).bind g = r.bind fun a s => (f a s).bind g := by
  cases r <;> rfl
theorem Sim.adopt {K : PySem.W.Frag} {m : List Addr} {H : Hp} {S : Sto} (q : Sim K m H S) {p : Addr} {l : List D} {xs : List V} (n : p ∉ m) (e : H p = some (.lst xs)) (r : RVs K m H l xs) : Sim K (m ++ [p]) H (S ++ [.lst l]) := by
  have mp : ∀ (i : Nat) (x : Addr), m[i]? = some x → (m ++ [p])[i]? = some x := fun i x h => by
    rw [List.getElem?_append_left (List.getElem?_eq_some_iff.mp h).1]; exact h
  have up : ∀ {l : List D} {xs : List V}, RVs K m H l xs → RVs K (m ++ [p]) H l xs := fun h => h.mapH (fun _ _ z => z) (fun _ _ z => z) mp
  refine ⟨by simp [q.len], ?_, fun i x o h1 h2 => ?_⟩
  · rw [List.nodup_append]
    refine ⟨q.nd, by simp, fun a ha b hb => ?_⟩
    rw [List.mem_singleton] at hb
    subst hb
    exact fun z => n (z ▸ ha)
  · by_cases hi : i < m.length
    · rw [List.getElem?_append_left hi] at h1
      rw [List.getElem?_append_left (by rw [← q.len]; exact hi)] at h2
      exact (q.ob i x o h1 h2).mapO rfl fun _ _ r => up r
    · have hi' : m.length ≤ i := Nat.le_of_not_lt hi
      rw [List.getElem?_append_right hi'] at h1
      rw [List.getElem?_append_right (by rw [← q.len]; exact hi')] at h2
      have e0 : i - m.length = 0 := by
        by_cases z : i - m.length = 0
        · exact z
        · rw [List.getElem?_eq_none (by simp; omega)] at h1; cases h1
      rw [e0] at h1
      rw [← q.len, e0] at h2
      simp at h1 h2
      subst h1 h2
      exact ⟨xs, e, up r⟩
theorem lcL_cons {w : Option (Nat × List D)} {bnd : D → Option Env} {tst : Env → Sto → R Bool} {elt : Env → Sto → R D} {x : D} {xs : List D} {s : Sto} {acc : List D} (hw : watch w s = true) : lcL w bnd tst elt (x :: xs) s acc = (match bnd x with
    | some env => (tst env s).nox.bind fun b s => match b with
      | true => (elt env s).nox.bind fun y s => lcL w bnd tst elt xs s (acc ++ [y])
      | false => lcL w bnd tst elt xs s acc
    | none => .err) := by
  rw [lcL, hw]; rfl
theorem lcL_ok {w : Option (Nat × List D)} {bnd : D → Option Env} {tst : Env → Sto → R Bool} {elt : Env → Sto → R D} : ∀ (xs : List D) (s : Sto) (acc : List D), (∃ l s', lcL w bnd tst elt xs s acc = .ok l s' ∧ acc.length ≤ l.length) ∨ lcL w bnd tst elt xs s acc = .err
  | [], s, acc => by
    unfold lcL
    cases watch w s with
    | true => exact .inl ⟨acc, s, rfl, Nat.le_refl _⟩
    | false => exact .inr rfl
  | x :: xs, s, acc => by
    unfold lcL
    cases watch w s with
    | false => exact .inr rfl
    | true =>
      simp only [when]
      cases bnd x with
      | none => exact .inr rfl
      | some env =>
        simp only
        cases tst env s with
        | exc c fs s1 => exact .inr rfl
        | err => exact .inr rfl
        | ok b s1 =>
          simp only [R.nox, R.bind]
          cases b with
          | false => exact lcL_ok xs s1 acc
          | true =>
            simp only
            cases elt env s1 with
            | exc c fs s2 => exact .inr rfl
            | err => exact .inr rfl
            | ok y s2 =>
              simp only [R.nox, R.bind]
              rcases lcL_ok (w := w) (bnd := bnd) (tst := tst) (elt := elt) xs s2 (acc ++ [y]) with ⟨l, s', e, hl⟩ | e
              · refine .inl ⟨l, s', e, ?_⟩
                rw [List.length_append] at hl
                omega
              · exact .inr e
theorem lc_room {w : Option (Nat × List D)} {bnd : D → Option Env} {tst : Env → Sto → R Bool} {elt : Env → Sto → R D} {xs : List D} {s : Sto} {acc : List D} {m : List Addr} {H : Hp} {E : XW} {Q : VK} {K : PySem.W.Frag}
    (h : Post K (RV K) m H E ((lcL w bnd tst elt xs s acc).bind fun l s => when (decide (l.length ≤ lim)) (alloc (.lst l) s)) Q) : acc.length ≤ lim := by
  rcases lcL_ok (w := w) (bnd := bnd) (tst := tst) (elt := elt) xs s acc with ⟨l, s', e, hl⟩ | e
  · rw [e] at h
    have h' : Post K (RV K) m H E (when (decide (l.length ≤ lim)) (alloc (.lst l) s')) Q := h
    exact Nat.le_trans hl (of_decide_eq_true (when_post h').1)
  · rw [e] at h
    exact h.elim
/-- a step that reaches a list which the things do not name -/
theorem Step.out {m m' : List Addr} {H H' : Hp} (a : Step m H m' H') {p : Addr} {o : HO} (h : H p = some o) (n : p ∉ m) : H' p = some o ∧ p ∉ m' := ⟨a.fr p o h n, fun z => by
  have := a.new p z n
  rw [h] at this; cases this⟩
theorem se_lc (g : Good nm cs np C X W) (so : ScOk X sc) {tg : List Nat} {one : Bool} {x : Ex F} {it : SB.It F} {c : OEx F} {elt te iter : Expr} {ifs : List Expr} {scope : Scope} {p : Pos}
    (hb : blkC X.N sc scope (ownOf X.N tg) = true) (hi : SI C X W it iter) (L : LcOk C X scope tg one x c te elt ifs) :
    ∃ (wi : TI) (gt : TG) (tt : TT) (t : TE), (∀ tg', PI X tg' iter wi) ∧
      (∀ (s : Shared) (H : Hp) (Cc : Addr) (cl : List (Str × Addr)) (fp : List Addr), PG (X.blk s H scope (compEnvC scope cl Cc X.env) fp) te gt) ∧
      (∀ (s : Shared) (H : Hp) (Cc : Addr) (cl : List (Str × Addr)) (fp : List Addr), PTs (X.blk s H scope (compEnvC scope cl Cc X.env) fp) ifs tt) ∧
      (∀ (s : Shared) (H : Hp) (Cc : Addr) (cl : List (Str × Addr)) (fp : List Addr), PE (X.blk s H scope (compEnvC scope cl Cc X.env) fp) elt t) ∧
      (∀ v, foldedSetIterable iter X.env v = pure v) ∧
      ∀ {m : List Addr} {S : Sto} {env : Env} {σ : L2.St} {H : Hp} {Q : VK}, Sim X.K m H S → RS X.K m H env σ → Post X.K (RV X.K) m H (fun c d _ H' => W c d σ H') (evE C (.lc tg one x it c) env S) Q → tLc wi gt tt t ((ownOf X.N tg).map (·.2)) σ H Q := by
  obtain ⟨gt, tt, t, p1, p2, p3, c1, c2, c3⟩ := L.ex
  obtain ⟨fo, wi, pi, ci⟩ := hi
  refine ⟨wi, gt, tt, t, pi, p1, p2, p3, fo, fun {m S env σ H Q} q rs h => ?_⟩
  rw [own_ix]
  rw [evE] at h
  refine ci q rs (h.bindB Step.refl fun its S1 J m1 H1 s1 q1 wk h1 => ?_)
  intro D hD
  have rs1 := rs.mono s1 q
  refine ⟨fun i n H' => n = its.1.length - i ∧ i ≤ its.1.length ∧ ∃ m' S' acc accV, Step m1 H1 m' H' ∧ Sim X.K m' H' S' ∧ D ∉ m' ∧ H' D = some (.lst accV) ∧ RVs X.K m' H' acc accV ∧
    Post X.K (RV X.K) m H (fun c d _ H' => W c d σ H') ((lcL its.2 (fun d => bindT tg one d (SB.wipe env tg)) (fun env s => evC C c env s) (fun env s => evE C x env s) (its.1.drop i) S' acc).bind fun l s => when (decide (l.length ≤ lim)) (alloc (.lst l) s)) Q,
    ⟨its.1.length, by simp, Nat.zero_le _, m1, S1, [], [], Step.put hD, q1.put hD, q1.free hD, upd_same, .nil, h1⟩, ?_⟩
  rintro i n H' ⟨rfl, hi, m', S', acc, accV, st, sq, nD, eD, ra, hp⟩
  by_cases hlt : i < its.1.length
  · -- a turn
    rw [List.drop_eq_getElem_cons hlt] at hp
    cases hw : watch its.2 S' with
    | false => rw [lcL, hw] at hp; exact hp.elim
    | true =>
      rw [lcL_cons hw] at hp
      obtain ⟨go, yl⟩ := (wk m' H' S' st sq hw).1 i its.1[i] (List.getElem?_eq_getElem hlt)
      refine .inr ⟨go, fun H'' => ∃ n, n < its.1.length - i ∧ _, fun H'' hn => hn, fun y H2 hy => ?_⟩
      obtain ⟨s2, q2, r2⟩ := yl y H2 hy
      cases hbd : bindT tg one its.1[i] (SB.wipe env tg) with
      | none => rw [hbd] at hp; exact hp.elim
      | some env1 =>
        rw [hbd] at hp
        simp only at hp
        rw [R.assoc] at hp
        have rs2 := ((rs1.mono st q1).mono s2 sq).wipe tg
        obtain ⟨eD2, nD2⟩ := s2.out eD nD
        refine c1 r2 rs2 hbd fun σ2 rs3 hl hk => ⟨?_, ?_⟩
        · have e1 : L2.wipe σ2 tg = L2.wipe (L2.wipe σ tg) tg := wipe_eq hl hk
          rw [e1]
          refine wipe_eq (by rw [L2.wipe_length]) fun j hj => ?_
          rw [wipe_get]
          simp [hj]
        · refine c2 q2 rs3 (Post.noxB hp fun b S3 b' m3 H3 s3 q3 eb h3 => ?_)
          have eb' : b = b' := eb
          subst eb'
          obtain ⟨eD3, nD3⟩ := s3.out eD2 nD2
          cases b with
          | false =>
            refine iteF' ⟨its.1.length - (i + 1), by omega, rfl, by omega, m3, S3, acc, accV, (st.trans s2).trans s3, q3, nD3, eD3, (ra.mono s2 sq).mono s3 q2, h3⟩
          | true =>
            simp only at h3
            rw [R.assoc] at h3
            refine iteT' (c3 q3 (rs3.mono s3 q2) (Post.noxB h3 fun y4 S4 v4 m4 H4 s4 q4 r4 h4 => ?_))
            obtain ⟨eD4, nD4⟩ := s4.out eD3 nD3
            have ra4 := ((ra.mono s2 sq).mono s3 q2).mono s4 q3
            have room := lc_room h4
            rw [List.length_append, ra.length, lim_eq] at room
            have room' : accV.length < sizeLine := by
              have : ([y4] : List SB.D).length = 1 := rfl
              omega
            refine ⟨accV, eD4, room', its.1.length - (i + 1), by omega, rfl, by omega, m4, S4, acc ++ [y4], accV ++ [v4], ?_, q4.updO eD4 nD4, nD4, upd_same, (ra4.updO eD4).append (.cons (r4.updO eD4) .nil), h4⟩
            have st4 := ((st.trans s2).trans s3).trans s4
            refine ⟨st4.pre, st4.new, fun b o hb hn => ?_, fun b o u hb => ?_⟩
            · have ne : b ≠ D := fun z => by rw [z, hD] at hb; cases hb
              rw [upd_ne ne]
              exact st4.fr b o hb hn
            · have ne : b ≠ D := fun z => by rw [z, hD] at hb; cases hb
              rw [upd_ne ne]
              exact st4.fz b o u hb
  · -- the end
    have ei : i = its.1.length := by omega
    subst ei
    rw [List.drop_eq_nil_of_le (Nat.le_refl _)] at hp
    unfold lcL at hp
    cases hw : watch its.2 S' with
    | false => rw [hw] at hp; exact hp.elim
    | true =>
      rw [hw] at hp
      refine .inl ⟨(wk m' H' S' st sq hw).2, ?_⟩
      obtain ⟨_, h2⟩ := when_post (show Post X.K (RV X.K) m H (fun c d _ H' => W c d σ H') (when (decide (acc.length ≤ lim)) (alloc (.lst acc) S')) Q from hp)
      have st0 := s1.trans st
      have hD0 : H D = none := by
        cases e : H D with
        | none => rfl
        | some o =>
          exfalso
          by_cases hm : D ∈ m
          · obtain ⟨r, er⟩ := s1.pre
            obtain ⟨xs, e', _⟩ := q1.obj_of (show D ∈ m1 by rw [er]; exact List.mem_append_left _ hm)
            rw [hD] at e'; cases e'
          · have := s1.fr D o e hm
            rw [hD] at this; cases this
      refine h2 _ (m' ++ [D]) H' ⟨?_, fun b hb hn => ?_, st0.fr, st0.fz⟩ (sq.adopt nD eD ra) (.ref ?_)
      · obtain ⟨r, er⟩ := st0.pre
        exact ⟨r ++ [D], by rw [er, List.append_assoc]⟩
      · rcases List.mem_append.mp hb with z | z
        · exact st0.new b z hn
        · rw [List.mem_singleton] at z; rw [z]; exact hD0
      · rw [← sq.len, List.getElem?_append_right (Nat.le_refl _)]
        simp
end
end SB
end

section
set_option maxHeartbeats 1000000
/-! The small language, evaluated by rewriting. -/
namespace SB.Ev
open PySem SB

/-! ### what a value satisfies -/
theorem nr {α : Sort _} {a b : α} (h : a = b) : a = b := h
@[irreducible] def Wp {α : Type} (r : R α) (P : α → Sto → Prop) (_ : Tag P := .mk) : Prop := match r with
  | .ok a s => P a s
  | _ => False
section
variable {α β : Type} {r r' : R α} {P Q : α → Sto → Prop}
theorem wp_congr {P : α → Sto → Prop} (h : r = r') : Wp r P = Wp r' P := by rw [h]
theorem bind_eq {f g : α → Sto → R β} (h : f = g) : r.bind f = r.bind g := by subst h; rfl
theorem bind_congr {f : α → Sto → R β} (h : r = r') : r.bind f = r'.bind f := by rw [h]
@[simp] theorem wp_ok {a : α} {s : Sto} : Wp (.ok a s) P = P a s := by unfold Wp; rfl
@[simp] theorem wp_err : Wp .err P = False := by unfold Wp; rfl
@[simp] theorem wp_exc {c : Str} {fs : List (Str × D)} {s : Sto} : Wp (.exc c fs s) P = False := by unfold Wp; rfl
@[simp] theorem wp_bind {f : α → Sto → R β} {P : β → Sto → Prop} : Wp (r.bind f) P = Wp r fun a s => Wp (f a s) P := by
  cases r with
  | ok a s => rw [wp_ok]; rfl
  | exc c fs s => rw [wp_exc]; show Wp (R.exc c fs s) P = _; rw [wp_exc]
  | err => rw [wp_err]; show Wp R.err P = _; rw [wp_err]
@[simp] theorem wp_ite {c : Prop} [Decidable c] {x y : R α} : Wp (if c then x else y) P = if c then Wp x P else Wp y P := by split <;> rfl
@[simp] theorem bind_ok {a : α} {s : Sto} {f : α → Sto → R β} : (R.ok a s).bind f = f a s := nr rfl
@[simp] theorem bind_err {f : α → Sto → R β} : (R.err : R α).bind f = .err := nr rfl
@[simp] theorem bind_ite {c : Prop} [Decidable c] {x y : R α} {f : α → Sto → R β} : (if c then x else y).bind f = if c then x.bind f else y.bind f := by split <;> rfl
@[simp] theorem when_t {r : R α} : when true r = r := nr rfl
@[simp] theorem when_f {r : R α} : when false r = .err := nr rfl
@[simp] theorem wp_when {b : Bool} {r : R α} : Wp (when b r) P = (b = true ∧ Wp r P) := by cases b <;> simp
theorem Wp.imp (h : Wp r P) (f : ∀ a s, P a s → Q a s) : Wp r Q := by
  cases r with
  | ok a s => rw [wp_ok] at h ⊢; exact f _ _ h
  | exc c fs s => rw [wp_exc] at h; exact h.elim
  | err => rw [wp_err] at h; exact h.elim
theorem Wp.eq {a : α} {s : Sto} (h : Wp r fun b t => b = a ∧ t = s) : r = .ok a s := by
  cases r with
  | ok b t => rw [wp_ok] at h; obtain ⟨rfl, rfl⟩ := h; rfl
  | exc c fs s => rw [wp_exc] at h; exact h.elim
  | err => rw [wp_err] at h; exact h.elim
theorem Wp.ex (h : Wp r P) : ∃ a s, r = .ok a s ∧ P a s := by
  cases r with
  | ok a s => rw [wp_ok] at h; exact ⟨a, s, rfl, h⟩
  | exc c fs s => rw [wp_exc] at h; exact h.elim
  | err => rw [wp_err] at h; exact h.elim
@[simp] theorem nox_ok {a : α} {s : Sto} : (R.ok a s).nox = .ok a s := nr rfl
end
/-- by a truth value -/
def bD {α : Type} (d : D) (x y : R α) : R α := match d with
  | .bl true => x
  | .bl false => y
  | _ => .err
@[simp] theorem bD_bl {α : Type} {b : Bool} {x y : R α} : bD (.bl b) x y = if b = true then x else y := by cases b <;> rfl
def optR {α β : Type} (o : Option α) (f : α → R β) : R β := match o with
  | some a => f a
  | none => .err
@[simp] theorem optR_some {α β : Type} {a : α} {f : α → R β} : optR (some a) f = f a := nr rfl
def intR {β : Type} (d : D) (f : Int → R β) : R β := match d with
  | .int i => f i
  | _ => .err
@[simp] theorem intR_int {β : Type} {i : Int} {f : Int → R β} : intR (.int i) f = f i := nr rfl
def getV (o : Option (Option D)) (s : Sto) : R D := match o with
  | some (some d) => .ok d s
  | _ => .err
@[simp] theorem getV_some {d : D} {s : Sto} : getV (some (some d)) s = .ok d s := nr rfl
/-! ### expressions -/
section
variable {F : Type} {C : F → List D → Sto → R D} {env : Env} {s : Sto}
theorem opt_eq {α β : Type} {o : Option α} {f : α → R β} : (match o with | some a => f a | none => .err) = optR o f := by cases o <;> rfl
@[simp] theorem e_non : evE C (.non : Ex F) env s = .ok .non s := by rw [evE]
@[simp] theorem e_bl {b : Bool} : evE C (.bl b : Ex F) env s = .ok (.bl b) s := by rw [evE]
@[simp] theorem e_int {b : Int} : evE C (.int b : Ex F) env s = .ok (.int b) s := by rw [evE]
@[simp] theorem e_str {b : Str} : evE C (.str b : Ex F) env s = .ok (.str b) s := by rw [evE]
@[simp] theorem e_var {i : Nat} : evE C (.var i : Ex F) env s = getV env[i]? s := by rw [evE]; rfl
@[simp] theorem e_con {x : Str} {d : D} : evE C (.con x d : Ex F) env s = .ok d s := by rw [evE]
@[simp] theorem e_bin {o : Bop} {a b : Ex F} : evE C (.bin o a b) env s = (evE C a env s).bind fun x s => (evE C b env s).bind fun y s => binOp o x y s := by rw [evE]
@[simp] theorem e_neg {a : Ex F} : evE C (.neg a) env s = (evE C a env s).bind fun x s => intR x fun i => .ok (.int (-i)) s := by rw [evE]; rfl
@[simp] theorem e_cmp {o : Cop} {a b : Ex F} : evE C (.cmp o a b) env s = (evE C a env s).bind fun x s => (evE C b env s).bind fun y s => cmpOp o x y s := by rw [evE]
@[simp] theorem e_cm2 {o p : Cop} {a b c : Ex F} : evE C (.cm2 o p a b c) env s = (evE C a env s).bind fun x s => (evE C b env s).bind fun y s => (cmpOp o x y s).bind fun r s => bD r ((evE C c env s).bind fun z s => cmpOp p y z s) (.ok (.bl false) s) := by rw [evE]; rfl
@[simp] theorem e_cm3 {o p q : Cop} {a b c d : Ex F} : evE C (.cm3 o p q a b c d) env s = (evE C a env s).bind fun x s => (evE C b env s).bind fun y s => (cmpOp o x y s).bind fun r s => bD r ((evE C c env s).bind fun z s => (cmpOp p y z s).bind fun r s => bD r ((evE C d env s).bind fun u s => cmpOp q z u s) (.ok (.bl false) s)) (.ok (.bl false) s) := by rw [evE]; rfl
@[simp] theorem e_and {a b : Ex F} : evE C (.and a b) env s = (evE C a env s).bind fun x s => bD x (evE C b env s) (.ok (.bl false) s) := by rw [evE]; rfl
@[simp] theorem e_or {a b : Ex F} : evE C (.or a b) env s = (evE C a env s).bind fun x s => bD x (.ok (.bl true) s) (evE C b env s) := by rw [evE]; rfl
def notR (x : D) (s : Sto) : R D := match x with
  | .bl b => .ok (.bl (!b)) s
  | _ => .err
@[simp] theorem notR_bl {b : Bool} : notR (.bl b) s = .ok (.bl (!b)) s := nr rfl
@[simp] theorem e_not {a : Ex F} : evE C (.not a) env s = (evE C a env s).bind fun x s => notR x s := by rw [evE]; rfl
@[simp] theorem e_ite {c a b : Ex F} : evE C (.ite c a b) env s = (evT C c env s).bind fun k s => if k = true then evE C a env s else evE C b env s := by
  rw [evE]
  refine bind_eq ?_
  funext k s
  cases k <;> rfl
@[simp] theorem e_tup {es : Exs F} : evE C (.tup es) env s = (evEs C es env s).bind fun ds s => when (decide (ds.length ≤ lim)) (.ok (.tup ds) s) := by rw [evE]
@[simp] theorem e_lst {es : Exs F} : evE C (.lst es) env s = (evEs C es env s).bind fun ds s => when (decide (ds.length ≤ lim)) (alloc (.lst ds) s) := by rw [evE]
@[simp] theorem e_idx {a i : Ex F} : evE C (.idx a i) env s = (evE C a env s).bind fun x s => (evE C i env s).bind fun y s => idxOp x y s := by rw [evE]
@[simp] theorem e_slc {a : Ex F} {l h : OEx F} : evE C (.slc a l h) env s = (evE C a env s).bind fun x s => (evO C l env s).bind fun l s => (evO C h env s).bind fun h s => slcOp x l h s := by rw [evE]
@[simp] theorem e_call {f : F} {es : Exs F} : evE C (.call f es) env s = (evEs C es env s).bind fun ds s => C f ds s := by rw [evE]
@[simp] theorem e_blt {f : Bn} {es : Exs F} : evE C (.blt f es) env s = (evEs C es env s).bind fun ds s => bltOp f ds s := by rw [evE]
@[simp] theorem e_met {m : Mn} {o e : Ex F} : evE C (.met m o e) env s = (evE C o env s).bind fun x s => when (recvOk m x s) ((evE C e env s).bind fun y s => metOp m x y s) := by rw [evE]
@[simp] theorem e_sset {e : Ex F} : evE C (.sset e) env s = (evE C e env s).bind fun x s => ssetOp x s := by rw [evE]
@[simp] theorem e_dnew : evE C (.dnew : Ex F) env s = alloc (.dct false []) s := by rw [evE]
@[simp] theorem e_isi {a : Ex F} {t : Ty} : evE C (.isi a t) env s = (evE C a env s).bind fun x s => optR (isTy t x) fun b => .ok (.bl b) s := by
  rw [evE]
  refine bind_eq ?_
  funext x s
  cases isTy t x <;> rfl
/-- a comprehension's turns -/
@[irreducible] def lcB (C : F → List D → Sto → R D) (tg : List Nat) (one : Bool) (e : Ex F) (c : OEx F) (env : Env) (w : Option (Nat × List D)) (xs : List D) (s : Sto) (acc : List D) : R (List D) :=
  lcL w (fun d => bindT tg one d (wipe env tg)) (fun env s => evC C c env s) (fun env s => evE C e env s) xs s acc
@[simp] theorem e_lc {tg : List Nat} {one : Bool} {e : Ex F} {it : It F} {c : OEx F} : evE C (.lc tg one e it c) env s = (evIt C it env s).bind fun its s => (lcB C tg one e c env its.2 its.1 s []).bind fun l s => when (decide (l.length ≤ lim)) (alloc (.lst l) s) := by rw [evE]; unfold lcB; rfl
theorem lcB_nil {tg : List Nat} {one : Bool} {e : Ex F} {c : OEx F} {w : Option (Nat × List D)} {acc : List D} : lcB C tg one e c env w [] s acc = when (watch w s) (.ok acc s) := by unfold lcB; rfl
theorem lcB_cons {tg : List Nat} {one : Bool} {e : Ex F} {c : OEx F} {w : Option (Nat × List D)} {x : D} {xs acc : List D} : lcB C tg one e c env w (x :: xs) s acc = when (watch w s) (optR (bindT tg one x (wipe env tg)) fun env2 => (evC C c env2 s).nox.bind fun b s => if b = true then (evE C e env2 s).nox.bind fun y s => lcB C tg one e c env w xs s (acc ++ [y]) else lcB C tg one e c env w xs s acc) := by
  unfold lcB
  rw [lcL]
  cases watch w s with
  | false => rfl
  | true =>
    show _ = optR _ _
    cases bindT tg one x (wipe env tg) with
    | none => rfl
    | some env2 =>
      show R.bind _ _ = R.bind _ _
      refine bind_eq ?_
      funext b s
      cases b <;> rfl
/-! tests -/
@[simp] theorem t_and {a b : Ex F} : evT C (.and a b) env s = (evT C a env s).bind fun k s => if k = true then evT C b env s else .ok false s := by
  rw [evT]
  refine bind_eq ?_
  funext k s
  cases k <;> rfl
@[simp] theorem t_or {a b : Ex F} : evT C (.or a b) env s = (evT C a env s).bind fun k s => if k = true then .ok true s else evT C b env s := by
  rw [evT]
  refine bind_eq ?_
  funext k s
  cases k <;> rfl
@[simp] theorem t_not {a : Ex F} : evT C (.not a) env s = (evT C a env s).bind fun k s => .ok (!k) s := by rw [evT]
def blR (r : D) (s : Sto) : R Bool := match r with
  | .bl k => .ok k s
  | _ => .err
@[simp] theorem blR_bl {b : Bool} : blR (.bl b) s = .ok b s := nr rfl
@[simp] theorem t_cmp {o : Cop} {a b : Ex F} : evT C (.cmp o a b) env s = (evE C a env s).bind fun x s => (evE C b env s).bind fun y s => (cmpOp o x y s).bind fun r s => blR r s := by rw [evT]; rfl
@[simp] theorem t_cm2 {o p : Cop} {a b c : Ex F} : evT C (.cm2 o p a b c) env s = (evE C a env s).bind fun x s => (evE C b env s).bind fun y s => (cmpOp o x y s).bind fun r s => bD r ((evE C c env s).bind fun z s => (cmpOp p y z s).bind fun r s => blR r s) (.ok false s) := by rw [evT]; rfl
@[simp] theorem t_isi {a : Ex F} {t : Ty} : evT C (.isi a t) env s = (evE C a env s).bind fun x s => optR (isTy t x) fun b => .ok b s := by
  rw [evT]
  refine bind_eq ?_
  funext x s
  cases isTy t x <;> rfl
@[simp] theorem t_call {f : F} {es : Exs F} : evT C (.call f es) env s = (evEs C es env s).bind fun ds s => (C f ds s).bind truR := by rw [evT]
@[simp] theorem t_var {i : Nat} : evT C (.var i : Ex F) env s = (getV env[i]? s).bind truR := by
  rw [evT]
  cases env[i]? with
  | none => rfl
  | some o => cases o <;> rfl
@[simp] theorem t_idx {a i : Ex F} : evT C (.idx a i) env s = (evE C a env s).bind fun x s => (evE C i env s).bind fun y s => (idxOp x y s).bind truR := by rw [evT]
@[simp] theorem es_nil : evEs C (.nil : Exs F) env s = .ok [] s := by rw [evEs]
@[simp] theorem es_cons {e : Ex F} {es : Exs F} : evEs C (.cons e es) env s = (evE C e env s).bind fun d s => (evEs C es env s).bind fun ds s => .ok (d :: ds) s := by rw [evEs]
@[simp] theorem c_none : evC C (.none : OEx F) env s = .ok true s := by rw [evC]
@[simp] theorem c_some {t : Ex F} : evC C (.some t) env s = evT C t env s := by rw [evC]
@[simp] theorem o_none : evO C (.none : OEx F) env s = .ok none s := by rw [evO]
@[simp] theorem o_some {e : Ex F} : evO C (.some e) env s = (evE C e env s).bind fun d s => intR d fun i => .ok (some i) s := by rw [evO]; rfl
@[simp] theorem i_ex {e : Ex F} : evIt C (.ex e) env s = (evE C e env s).bind fun d s => itemsOf d s := by rw [evIt]
@[simp] theorem i_r1 {a : Ex F} : evIt C (.rng1 a) env s = (evE C a env s).bind fun x s => rngOf (.int 0) x s := by rw [evIt]
@[simp] theorem i_r2 {a b : Ex F} : evIt C (.rng2 a b) env s = (evE C a env s).bind fun x s => (evE C b env s).bind fun y s => rngOf x y s := by rw [evIt]
/-! ### statements -/
/-- a walk's turns, the body's text -/
@[irreducible] def forB (C : F → List D → Sto → R D) (tg : List Nat) (one : Bool) (b : Sxs F) (w : Option (Nat × List D)) (xs : List D) (env : Env) (s : Sto) : R Fl := forL w (bindT tg one) (fun env s => evSs C b env s) xs env s
def flR (f : Fl) (s : Sto) (k : Env → Sto → R Fl) : R Fl := match f with
  | .nx env => k env s
  | .ct env => k env s
  | .bk env => .ok (.nx env) s
  | .ret d => .ok (.ret d) s
@[simp] theorem flR_nx {e : Env} {k : Env → Sto → R Fl} : flR (.nx e) s k = k e s := nr rfl
@[simp] theorem flR_ct {e : Env} {k : Env → Sto → R Fl} : flR (.ct e) s k = k e s := nr rfl
@[simp] theorem flR_bk {e : Env} {k : Env → Sto → R Fl} : flR (.bk e) s k = .ok (.nx e) s := nr rfl
@[simp] theorem flR_ret {d : D} {k : Env → Sto → R Fl} : flR (.ret d) s k = .ok (.ret d) s := nr rfl
def sqR (f : Fl) (s : Sto) (k : Env → Sto → R Fl) : R Fl := match f with
  | .nx env => k env s
  | f => .ok f s
@[simp] theorem sqR_nx {e : Env} {k : Env → Sto → R Fl} : sqR (.nx e) s k = k e s := nr rfl
@[simp] theorem sqR_ct {e : Env} {k : Env → Sto → R Fl} : sqR (.ct e) s k = .ok (.ct e) s := nr rfl
@[simp] theorem sqR_bk {e : Env} {k : Env → Sto → R Fl} : sqR (.bk e) s k = .ok (.bk e) s := nr rfl
@[simp] theorem sqR_ret {d : D} {k : Env → Sto → R Fl} : sqR (.ret d) s k = .ok (.ret d) s := nr rfl
theorem forB_nil {tg : List Nat} {one : Bool} {b : Sxs F} {w : Option (Nat × List D)} : forB C tg one b w [] env s = when (watch w s) (.ok (.nx env) s) := by unfold forB; rfl
theorem forB_cons {tg : List Nat} {one : Bool} {b : Sxs F} {w : Option (Nat × List D)} {x : D} {xs : List D} : forB C tg one b w (x :: xs) env s = when (watch w s) (optR (bindT tg one x env) fun env => (evSs C b env s).bind fun f s => flR f s (forB C tg one b w xs)) := by
  unfold forB
  rw [forL]
  cases watch w s with
  | false => rfl
  | true =>
    show _ = optR _ _
    cases bindT tg one x env with
    | none => rfl
    | some env2 =>
      exact bind_eq rfl
@[irreducible] def whB (C : F → List D → Sto → R D) (c : Ex F) (b : Sxs F) (n : Nat) (env : Env) (s : Sto) : R Fl := whlL (fun env s => evT C c env s) (fun env s => evSs C b env s) n env s
theorem whB_succ {c : Ex F} {b : Sxs F} {n : Nat} : whB C c b (n + 1) env s = (evT C c env s).bind fun k s => if k = true then (evSs C b env s).bind fun f s => flR f s (whB C c b n) else .ok (.nx env) s := by
  unfold whB
  rw [whlL]
  refine bind_eq ?_
  funext k s
  cases k with
  | false => rfl
  | true =>
    exact bind_eq rfl
@[simp] theorem s_set {i : Nat} {e : Ex F} : evS C (.set i e) env s = (evE C e env s).bind fun d s => .ok (.nx (env.set i (some d))) s := by rw [evS]
@[simp] theorem s_setT {ts : List Nat} {e : Ex F} : evS C (.setT ts e) env s = (evE C e env s).bind fun d s => optR (bindT ts false d env) fun env => .ok (.nx env) s := by
  rw [evS]
  refine bind_eq ?_
  funext x s
  cases bindT ts false x env <;> rfl
def setR (env : Env) (o i v : D) (s : Sto) : R Fl := match setItem o i v s with
  | some s => .ok (.nx env) s
  | none => (match setDct o i v s with
    | some s => .ok (.nx env) s
    | none => .err)
@[simp] theorem s_setI {o i e : Ex F} : evS C (.setI o i e) env s = (evE C e env s).bind fun v s => (evE C o env s).bind fun o s => (evE C i env s).bind fun i s => setR env o i v s := by rw [evS]; rfl
@[simp] theorem s_aug {i : Nat} {e : Ex F} : evS C (.aug i e) env s = (getV env[i]? s).bind fun x s => (evE C e env s).bind fun y s => intR x fun a => intR y fun b => .ok (.nx (env.set i (some (.int (a + b))))) s := by
  rw [evS]
  cases env[i]? with
  | none => rfl
  | some o =>
    cases o with
    | none => rfl
    | some x =>
      show R.bind _ _ = R.bind (evE C e env s) _
      refine bind_eq ?_
      funext y s
      cases x <;> cases y <;> rfl
@[simp] theorem s_expr {e : Ex F} : evS C (.expr e) env s = (evE C e env s).bind fun _ s => .ok (.nx env) s := by rw [evS]
@[simp] theorem s_ret {e : Ex F} : evS C (.ret e) env s = (evE C e env s).bind fun d s => .ok (.ret d) s := by rw [evS]
@[simp] theorem s_retN : evS C (.retN : Sx F) env s = .ok (.ret .non) s := by rw [evS]
@[simp] theorem s_iff {c : Ex F} {a b : Sxs F} : evS C (.iff c a b) env s = (evT C c env s).bind fun k s => if k = true then evSs C a env s else evSs C b env s := by
  rw [evS]
  refine bind_eq ?_
  funext k s
  cases k <;> rfl
@[simp] theorem s_for {tg : List Nat} {one : Bool} {it : It F} {b : Sxs F} : evS C (.for_ tg one it b) env s = (evIt C it env s).bind fun its s => forB C tg one b its.2 its.1 env s := by rw [evS]; unfold forB; rfl
def refR {β : Type} (d : D) (f : Nat → R β) : R β := match d with
  | .ref i => f i
  | _ => .err
@[simp] theorem refR_ref {β : Type} {i : Nat} {f : Nat → R β} : refR (.ref i) f = f i := nr rfl
def fdR (o : Option O) (f : List (DKey × D) → R Fl) : R Fl := match o with
  | some (.dct false l) => f l
  | _ => .err
@[simp] theorem fdR_dct {l : List (DKey × D)} {f : List (DKey × D) → R Fl} : fdR (some (.dct false l)) f = f l := nr rfl
@[simp] theorem s_forK {i v : Nat} {b : Sxs F} : evS C (.forK i v b) env s = (getV env[v]? s).bind fun d s => refR d fun p => fdR s[p]? fun l => unlock p l (forB C [i] true b none (l.map fun q => keyD q.1) env (s.set p (.dct true l))) := by
  rw [evS]
  unfold forB
  cases env[v]? with
  | none => rfl
  | some o =>
    cases o with
    | none => rfl
    | some x =>
      cases x with
      | ref p =>
        show (match s[p]? with
          | some (.dct false l) => _
          | _ => R.err) = fdR s[p]? _
        cases s[p]? with
        | none => rfl
        | some q =>
          cases q with
          | lst l => rfl
          | dct lk l => cases lk <;> rfl
      | _ => rfl
@[simp] theorem s_whl {c : Ex F} {b : Sxs F} : evS C (.whl c b) env s = whB C c b fuel env s := by rw [evS]; unfold whB; rfl
@[simp] theorem s_brk : evS C (.brk : Sx F) env s = .ok (.bk env) s := by rw [evS]
@[simp] theorem s_cnt : evS C (.cnt : Sx F) env s = .ok (.ct env) s := by rw [evS]
@[simp] theorem s_pas : evS C (.pas : Sx F) env s = .ok (.nx env) s := by rw [evS]
@[simp] theorem ss_nil : evSs C (.nil : Sxs F) env s = .ok (.nx env) s := by rw [evSs]
@[simp] theorem ss_cons {a : Sx F} {r : Sxs F} : evSs C (.cons a r) env s = (evS C a env s).bind fun f s => sqR f s (evSs C r) := by
  rw [evSs]
  exact bind_eq rfl
theorem call_eq {T : F → Fn F} {k : Nat} {f : F} {ds : List D} : callF T (k + 1) f ds s = when (decide (ds.length = (T f).ps)) (outOf (T f).gc s (evSs (callF T k) (T f).body (start (T f).n ds) s)) := by rw [callF]
end
/-! ### the end of a call -/
def gcFl (g : Gc) (s0 : Sto) (f : Fl) (s : Sto) : R D := match f with
  | .nx _ => gcR g s0 .non s
  | .ret d => gcR g s0 d s
  | _ => .err
theorem out_ok_eq {g : Gc} {s0 s : Sto} {f : Fl} : outOf g s0 (.ok f s) = gcFl g s0 f s := by cases f <;> rfl
theorem wp_out {g : Gc} {s0 : Sto} {r : R Fl} {P : D → Sto → Prop} (h : Wp r fun f s => Wp (gcFl g s0 f s) P) : Wp (outOf g s0 r) P := by
  cases r with
  | ok f s => rw [out_ok_eq]; rw [wp_ok] at h; exact h
  | exc c fs s => rw [wp_exc] at h; exact h.elim
  | err => rw [wp_err] at h; exact h.elim
@[simp] theorem gc_nx {g : Gc} {s0 s : Sto} {e : Env} : gcFl g s0 (.nx e) s = gcR g s0 .non s := nr rfl
@[simp] theorem gc_ret {g : Gc} {s0 s : Sto} {d : D} : gcFl g s0 (.ret d) s = gcR g s0 d s := nr rfl
/-- a def's call -/
theorem wp_call {F : Type} {T : F → Fn F} {k : Nat} {f : F} {ds : List D} {s : Sto} {P : D → Sto → Prop} (hn : ds.length = (T f).ps)
    (h : Wp (evSs (callF T k) (T f).body (start (T f).n ds) s) fun fl s' => Wp (gcFl (T f).gc s fl s') P) : Wp (callF T (k + 1) f ds s) P := by
  rw [call_eq, wp_when]
  exact ⟨decide_eq_true hn, wp_out h⟩
/-! ### operations -/
section
variable {s : Sto}
@[simp] theorem b_add_i {i j : Int} : binOp .add (.int i) (.int j) s = .ok (.int (i + j)) s := nr rfl
@[simp] theorem b_sub_i {i j : Int} : binOp .sub (.int i) (.int j) s = .ok (.int (i - j)) s := nr rfl
@[simp] theorem b_mul_i {i j : Int} : binOp .mul (.int i) (.int j) s = when (smallI i || smallI j) (.ok (.int (i * j)) s) := nr rfl
@[simp] theorem b_fdiv_i {i j : Int} : binOp .fdiv (.int i) (.int j) s = when (decide (0 < j ∧ j < 1073741824)) (.ok (.int (i / j)) s) := nr rfl
@[simp] theorem b_mod_i {i j : Int} : binOp .mod (.int i) (.int j) s = when (decide (0 < j)) (.ok (.int (i % j)) s) := nr rfl
@[simp] theorem b_pow_i {i j : Int} : binOp .pow (.int i) (.int j) s = when (decide (0 ≤ j ∧ j ≤ 1000000) && smallI i) (.ok (.int (i ^ j.toNat)) s) := nr rfl
@[simp] theorem b_add_s {a b : Str} : binOp .add (.str a) (.str b) s = when (decide (a.length + b.length ≤ lim)) (.ok (.str (a ++ b)) s) := nr rfl
@[simp] theorem b_add_t {a b : List D} : binOp .add (.tup a) (.tup b) s = when (decide (a.length + b.length ≤ lim)) (.ok (.tup (a ++ b)) s) := nr rfl
@[simp] theorem c_lt {i j : Int} : cmpOp .lt (.int i) (.int j) s = .ok (.bl (decide (i < j))) s := nr rfl
@[simp] theorem c_le {i j : Int} : cmpOp .le (.int i) (.int j) s = .ok (.bl (decide (i ≤ j))) s := nr rfl
@[simp] theorem c_gt {i j : Int} : cmpOp .gt (.int i) (.int j) s = .ok (.bl (decide (j < i))) s := nr rfl
@[simp] theorem c_ge {i j : Int} : cmpOp .ge (.int i) (.int j) s = .ok (.bl (decide (j ≤ i))) s := nr rfl
@[simp] theorem c_le_s {a b : Str} : cmpOp .le (.str a) (.str b) s = .ok (.bl (decide (a.cps.toList ≤ b.cps.toList))) s := nr rfl
@[simp] theorem c_is_non {x : D} : cmpOp .is x .non s = .ok (.bl (decide (x = .non))) s := nr rfl
@[simp] theorem c_is_bl {b c : Bool} : cmpOp .is (.bl b) (.bl c) s = .ok (.bl (b == c)) s := nr rfl
@[simp] theorem c_isnot_non {x : D} : cmpOp .isnot x .non s = .ok (.bl (!decide (x = .non))) s := nr rfl
@[simp] theorem c_eq_i {i j : Int} : cmpOp .eq (.int i) (.int j) s = .ok (.bl (decide (i = j))) s := nr rfl
@[simp] theorem c_ne_i {i j : Int} : cmpOp .ne (.int i) (.int j) s = .ok (.bl (!decide (i = j))) s := nr rfl
@[simp] theorem c_eq_s {a b : Str} : cmpOp .eq (.str a) (.str b) s = .ok (.bl (decide (a = b))) s := nr rfl
@[simp] theorem c_ne_s {a b : Str} : cmpOp .ne (.str a) (.str b) s = .ok (.bl (!decide (a = b))) s := nr rfl
@[simp] theorem c_eq_b {a b : Bool} : cmpOp .eq (.bl a) (.bl b) s = .ok (.bl (a == b)) s := nr rfl
theorem pure_ls {x : D} (h : x.pure = true) : lsAt x s = none := by
  cases x <;> first | rfl | simp [D.pure] at h
theorem c_eq_any {x y : D} (h : x.pure = true) (h2 : y.pure = true) (h3 : x.deep ≤ 90) : cmpOp .eq x y s = .ok (.bl (peq x y)) s := by
  show pyEq x y s .bl = _
  have h4 : min x.deep y.deep ≤ 90 := by omega
  simp [pyEq, pure_ls h, h, h2, h4]
theorem c_ne_any {x y : D} (h : x.pure = true) (h2 : y.pure = true) (h3 : x.deep ≤ 90) : cmpOp .ne x y s = .ok (.bl (!peq x y)) s := by
  show pyEq x y s (fun b => .bl (!b)) = _
  have h4 : min x.deep y.deep ≤ 90 := by omega
  simp [pyEq, pure_ls h, h, h2, h4]
theorem c_ne_l {p q : Nat} {a b : List D} (h1 : s[p]? = some (.lst a)) (h2 : s[q]? = some (.lst b)) (h3 : D.pures a = true) (h4 : D.pures b = true) (h5 : D.deeps a ≤ 80) : cmpOp .ne (.ref p) (.ref q) s = .ok (.bl (!peqs a b)) s := by
  show pyEq _ _ s (fun b => .bl (!b)) = _
  have h6 : min (D.deeps a) (D.deeps b) ≤ 80 := by omega
  simp [pyEq, lsAt, lstAt, h1, h2, h3, h4, h6]
theorem c_in_t {x : D} {l : List D} (h1 : x.pure = true) (h2 : D.pures l = true) (h3 : x.deep ≤ 60) : cmpOp .in_ x (.tup l) s = .ok (.bl (l.any fun z => peq z x)) s := by simp [cmpOp, isIn, h1, h2, h3]
theorem c_notin_t {x : D} {l : List D} (h1 : x.pure = true) (h2 : D.pures l = true) (h3 : x.deep ≤ 60) : cmpOp .notin x (.tup l) s = .ok (.bl (!l.any fun z => peq z x)) s := by simp [cmpOp, isIn, h1, h2, h3]
theorem c_in_r {x : D} {l : List D} {p : Nat} (h : s[p]? = some (.lst l)) (h1 : x.pure = true) (h2 : D.pures l = true) (h3 : x.deep ≤ 60) : cmpOp .in_ x (.ref p) s = .ok (.bl (l.any fun z => peq z x)) s := by simp [cmpOp, isIn, lstAt, h, h1, h2, h3]
theorem c_notin_r {x : D} {l : List D} {p : Nat} (h : s[p]? = some (.lst l)) (h1 : x.pure = true) (h2 : D.pures l = true) (h3 : x.deep ≤ 60) : cmpOp .notin x (.ref p) s = .ok (.bl (!l.any fun z => peq z x)) s := by simp [cmpOp, isIn, lstAt, h, h1, h2, h3]
theorem c_in_d {x : D} {l : List (DKey × D)} {p : Nat} {lk : Bool} {k : DKey} (h : s[p]? = some (.dct lk l)) (hk : keyOf x = some k) : cmpOp .in_ x (.ref p) s = .ok (.bl (valD l k).isSome) s := by simp [cmpOp, isIn, hasD, lstAt, dctAt, h, hk]
theorem c_notin_d {x : D} {l : List (DKey × D)} {p : Nat} {lk : Bool} {k : DKey} (h : s[p]? = some (.dct lk l)) (hk : keyOf x = some k) : cmpOp .notin x (.ref p) s = .ok (.bl (!(valD l k).isSome)) s := by simp [cmpOp, isIn, hasD, lstAt, dctAt, h, hk]
theorem isDct_tup {l : List D} : isDct (.tup l) s = false := rfl
@[simp] theorem ix_tup {l : List D} {i : Int} : idxOp (.tup l) (.int i) s = optR (atI l i) fun d => .ok d s := by
  unfold idxOp
  simp only [isDct, sqOp]
  cases atI l i <;> rfl
@[simp] theorem ix_lis {l : List D} {i : Int} : idxOp (.lis l) (.int i) s = optR (atI l i) fun d => .ok d s := by
  unfold idxOp
  simp only [isDct, sqOp]
  cases atI l i <;> rfl
@[simp] theorem ix_str {z : Str} {i : Int} : idxOp (.str z) (.int i) s = when (decide (z.length ≤ lim)) (optR (atI z.cps.toList i) fun c => .ok (.str ⟨#[c]⟩) s) := by
  unfold idxOp
  simp only [isDct, sqOp]
  cases atI z.cps.toList i <;> rfl
theorem ix_ref {p : Nat} {l : List D} {i : Int} (h : s[p]? = some (.lst l)) : idxOp (.ref p) (.int i) s = optR (atI l i) fun d => .ok d s := by
  have e1 : isDct (.ref p) s = false := by simp [isDct, dctAt, h]
  unfold idxOp
  rw [e1]
  simp only [sqOp, lstAt, h]
  cases atI l i <;> rfl
theorem ix_dct {p : Nat} {lk : Bool} {l : List (DKey × D)} {x : D} {k : DKey} (h : s[p]? = some (.dct lk l)) (hk : keyOf x = some k) : idxOp (.ref p) x s = optR (valD l k) fun d => .ok d s := by
  have e1 : isDct (.ref p) s = true := by simp [isDct, dctAt, h]
  unfold idxOp
  rw [e1]
  simp only [dgetOp, dctAt, h, hk]
  cases valD l k <;> rfl
@[simp] theorem atI_0 {α : Type} {a : α} {l : List α} : atI (a :: l) 0 = some a := by simp [atI, ixN]
@[simp] theorem atI_1 {α : Type} {a b : α} {l : List α} : atI (a :: b :: l) 1 = some b := by
  have h : (1 : Int) < (l.length : Int) + 1 + 1 := by omega
  simp [atI, ixN, h]
@[simp] theorem atI_2 {α : Type} {a b c : α} {l : List α} : atI (a :: b :: c :: l) 2 = some c := by
  have h : (2 : Int) < (l.length : Int) + 1 + 1 + 1 := by omega
  simp [atI, ixN, h]
@[simp] theorem atI_3 {α : Type} {a b c d : α} {l : List α} : atI (a :: b :: c :: d :: l) 3 = some d := by
  have h : (3 : Int) < (l.length : Int) + 1 + 1 + 1 + 1 := by omega
  simp [atI, ixN, h]
theorem atI_nat {α : Type} {l : List α} {i : Nat} {d : α} (h : l[i]? = some d) : atI l (i : Int) = some d := by
  have hl := (List.getElem?_eq_some_iff.mp h).1
  have h2 : (i : Int) < l.length := by omega
  simp [atI, ixN, h2, h]
@[simp] theorem isTy_int {t : Ty} {i : Int} : isTy t (.int i) = some (match t with | .int => true | _ => false) := by cases t <;> rfl
@[simp] theorem isTy_bl {t : Ty} {b : Bool} : isTy t (.bl b) = some (match t with | .int => true | .bool => true | _ => false) := by cases t <;> rfl
@[simp] theorem isTy_str {t : Ty} {z : Str} : isTy t (.str z) = some (match t with | .str => true | _ => false) := by cases t <;> rfl
@[simp] theorem isTy_tup {t : Ty} {l : List D} : isTy t (.tup l) = some (match t with | .tuple => true | _ => false) := by cases t <;> rfl
@[simp] theorem isTy_non {t : Ty} : isTy t .non = some false := by cases t <;> rfl
@[simp] theorem truR_bl {b : Bool} : truR (.bl b) s = .ok b s := nr rfl
@[simp] theorem len_tup {l : List D} : bltOp .len [.tup l] s = .ok (.int l.length) s := nr rfl
@[simp] theorem len_lis {l : List D} : bltOp .len [.lis l] s = .ok (.int l.length) s := nr rfl
@[simp] theorem len_str {z : Str} : bltOp .len [.str z] s = when (decide (z.length ≤ lim)) (.ok (.int z.length) s) := nr rfl
theorem len_ref {p : Nat} {l : List D} (h : s[p]? = some (.lst l)) : bltOp .len [.ref p] s = .ok (.int l.length) s := by simp [bltOp, lstAt, h]
theorem len_dct {p : Nat} {lk : Bool} {l : List (DKey × D)} (h : s[p]? = some (.dct lk l)) : bltOp .len [.ref p] s = .ok (.int l.length) s := by simp [bltOp, lstAt, dctAt, h]
@[simp] theorem abs_i {i : Int} : bltOp .abs [.int i] s = .ok (.int (if i < 0 then -i else i)) s := nr rfl
@[simp] theorem min_i {i j : Int} : bltOp .min [.int i, .int j] s = .ok (.int (if j < i then j else i)) s := nr rfl
@[simp] theorem max_i {i j : Int} : bltOp .max [.int i, .int j] s = .ok (.int (if j > i then j else i)) s := nr rfl
@[simp] theorem ord_s {z : Str} : bltOp .ord [.str z] s = when (decide (z.length = 1)) (.ok (.int (z.cps.getD 0 0 : Nat)) s) := nr rfl
@[simp] theorem tuple_t {l : List D} : bltOp .tuple [.tup l] s = .ok (.tup l) s := nr rfl
theorem tuple_r {p : Nat} {l : List D} (h : s[p]? = some (.lst l)) : bltOp .tuple [.ref p] s = .ok (.tup l) s := by simp [bltOp, lstAt, h]
@[simp] theorem list_t {l : List D} : bltOp .list [.tup l] s = alloc (.lst l) s := nr rfl
@[simp] theorem int_i {i : Int} : bltOp .int_ [.int i] s = .ok (.int i) s := nr rfl
theorem list_r {p : Nat} {l : List D} (h : s[p]? = some (.lst l)) : bltOp .list [.ref p] s = alloc (.lst l) s := by simp [bltOp, lstAt, h]
@[simp] theorem alloc_eq {o : O} : alloc o s = .ok (.ref s.length) (s ++ [o]) := nr rfl
theorem app_r {p : Nat} {l : List D} {x : D} (h : s[p]? = some (.lst l)) : metOp .append (.ref p) x s = when (decide (l.length < lim)) (.ok .non (s.set p (.lst (l ++ [x])))) := by simp [metOp, h]
theorem recv_app {p : Nat} {l : List D} (h : s[p]? = some (.lst l)) : recvOk .append (.ref p) s = true := by simp [recvOk, lstAt, h]
@[simp] theorem recv_join {z : Str} : recvOk .join (.str z) s = true := nr rfl
@[simp] theorem items_t {l : List D} : itemsOf (.tup l) s = .ok (l, none) s := nr rfl
@[simp] theorem items_s {z : Str} : itemsOf (.str z) s = .ok (z.cps.toList.map fun c => .str ⟨#[c]⟩, none) s := nr rfl
theorem items_r {p : Nat} {l : List D} (h : s[p]? = some (.lst l)) : itemsOf (.ref p) s = .ok (l, some (p, l)) s := by simp [itemsOf, lstAt, h]
@[simp] theorem rng_i {i j : Int} : rngOf (.int i) (.int j) s = when (midI i && midI j) (.ok (rangeD i (j - i).toNat, none) s) := nr rfl
@[simp] theorem watch_none : watch none s = true := nr rfl
theorem watch_some {p : Nat} {l : List D} (h : s[p]? = some (.lst l)) : watch (some (p, l)) s = true := by simp [watch, lstAt, h]
theorem set_lst {env : Env} {p : Nat} {l : List D} {k : Int} {j : Nat} {v : D} (h : s[p]? = some (.lst l)) (hj : ixN l.length k = some j) : setR env (.ref p) (.int k) v s = .ok (.nx env) (s.set p (.lst (l.set j v))) := by simp [setR, setItem, h, hj]
theorem set_dct {env : Env} {p : Nat} {l : List (DKey × D)} {x v : D} {k : DKey} (h : s[p]? = some (.dct false l)) (hk : keyOf x = some k) (hl : l.length < lim) : setR env (.ref p) x v s = .ok (.nx env) (s.set p (.dct false (putD l k v))) := by
  have e : setItem (.ref p) x v s = none := by
    cases x <;> simp [setItem, h]
  simp [setR, e, setDct, h, hk, hl]
@[simp] theorem bT1 {i : Nat} {d : D} {env : Env} : bindT [i] true d env = some (env.set i (some d)) := nr rfl
@[simp] theorem bTm {is : List Nat} {l : List D} {env : Env} : bindT is false (.tup l) env = setMany is l env := by cases is <;> rfl
@[simp] theorem sM_nil {env : Env} : setMany [] [] env = some env := nr rfl
@[simp] theorem sM_cons {i : Nat} {is : List Nat} {d : D} {ds : List D} {env : Env} : setMany (i :: is) (d :: ds) env = setMany is ds (env.set i (some d)) := nr rfl
@[simp] theorem wipe_nil {env : Env} : wipe env [] = env := nr rfl
@[simp] theorem wipe_cons {env : Env} {v : Nat} {vs : List Nat} : wipe env (v :: vs) = (wipe env vs).set v none := nr rfl
@[simp] theorem gc_raw {s0 : Sto} {d : D} : gcR .raw s0 d s = .ok d s := nr rfl
@[simp] theorem gc_pur {s0 : Sto} {d : D} : gcR .pur s0 d s = when (decide (s.take s0.length = s0) && d.upTo s0.length) (.ok d s0) := nr rfl
theorem gc_mut {s0 : Sto} {d : D} : gcR .«mut» s0 d s = when (keptOk s0.length s0 (s.take s0.length) && d.upTo s0.length) (.ok d (s.take s0.length)) := rfl
end
@[simp] theorem str_inj {a b : String} : (Str.ofString a = Str.ofString b) = (a = b) := by
  apply propext
  constructor
  · intro h
    rw [Str.ofString_eq_toList, Str.ofString_eq_toList] at h
    have h1 : (a.toList.map Char.toNat) = (b.toList.map Char.toNat) := by
      have := congrArg (fun z : Str => z.cps.toList) h
      simpa using this
    have h2 : a.toList = b.toList := List.map_inj_right (fun x y e => Char.toNat_inj.mp e) |>.mp h1
    exact String.toList_inj.mp h2
  · rintro rfl; rfl
@[simp] theorem start_def {fn : Nat} {ds : List D} : start fn ds = ds.map some ++ List.replicate (fn - ds.length) none := nr rfl
@[simp] theorem D_pure_non : D.pure .non = true := nr rfl
@[simp] theorem D_pure_bl {b : Bool} : D.pure (.bl b) = true := nr rfl
@[simp] theorem D_pure_int {i : Int} : D.pure (.int i) = true := nr rfl
@[simp] theorem D_pure_str {z : Str} : D.pure (.str z) = true := nr rfl
@[simp] theorem D_deep_non : D.deep .non = 0 := nr rfl
@[simp] theorem D_deep_bl {b : Bool} : D.deep (.bl b) = 0 := nr rfl
@[simp] theorem D_deep_int {i : Int} : D.deep (.int i) = 0 := nr rfl
@[simp] theorem D_deep_str {z : Str} : D.deep (.str z) = 0 := nr rfl
@[simp] theorem D_upTo_non {n : Nat} : D.upTo n .non = true := nr rfl
@[simp] theorem D_upTo_bl {n : Nat} {b : Bool} : D.upTo n (.bl b) = true := nr rfl
@[simp] theorem D_upTo_int {n : Nat} {i : Int} : D.upTo n (.int i) = true := nr rfl
@[simp] theorem D_upTo_str {n : Nat} {z : Str} : D.upTo n (.str z) = true := nr rfl
@[simp] theorem D_pure_tup {l : List D} : D.pure (.tup l) = D.pures l := nr rfl
@[simp] theorem D_deep_tup {l : List D} : D.deep (.tup l) = D.deeps l + 1 := nr rfl
@[simp] theorem D_upTo_tup {n : Nat} {l : List D} : D.upTo n (.tup l) = D.upTos n l := nr rfl
@[simp] theorem D_upTo_ref {n i : Nat} : D.upTo n (.ref i) = decide (i < n) := nr rfl
@[simp] theorem D_pures_nil : D.pures [] = true := nr rfl
@[simp] theorem D_pures_cons {a : D} {l : List D} : D.pures (a :: l) = (D.pure a && D.pures l) := nr rfl
@[simp] theorem D_deeps_nil : D.deeps [] = 0 := nr rfl
@[simp] theorem D_deeps_cons {a : D} {l : List D} : D.deeps (a :: l) = max (D.deep a) (D.deeps l) := nr rfl
@[simp] theorem D_upTos_nil {n : Nat} : D.upTos n [] = true := nr rfl
@[simp] theorem D_upTos_cons {n : Nat} {a : D} {l : List D} : D.upTos n (a :: l) = (D.upTo n a && D.upTos n l) := nr rfl
@[simp] theorem O_up_lst {n : Nat} {l : List D} : O.up n (.lst l) = D.upTos n l := nr rfl
@[simp] theorem upTos_int {n : Nat} (l : List Int) : D.upTos n (l.map D.int) = true := by induction l <;> simp_all
@[simp] theorem upTos_str {n : Nat} (l : List Str) : D.upTos n (l.map D.str) = true := by induction l <;> simp_all
@[simp] theorem deeps_int (l : List Int) : D.deeps (l.map D.int) = 0 := by induction l <;> simp_all
@[simp] theorem deeps_str (l : List Str) : D.deeps (l.map D.str) = 0 := by induction l <;> simp_all
@[simp] theorem lim_eq0 : lim = 16777216 := nr rfl
@[simp] theorem pures_int (l : List Int) : D.pures (l.map D.int) = true := by induction l <;> simp_all
@[simp] theorem pures_str (l : List Str) : D.pures (l.map D.str) = true := by induction l <;> simp_all
theorem any_int (x : Int) (l : List Int) : (l.map D.int).any (fun z => peq z (.int x)) = l.contains x := by
  induction l with
  | nil => rfl
  | cons a l ih =>
    rw [List.map_cons, List.any_cons, ih, List.contains_cons]
    congr 1
    simp only [peq]
    exact Bool.beq_comm
theorem any_str (x : Str) (l : List Str) : (l.map D.str).any (fun z => peq z (.str x)) = l.contains x := by
  induction l with
  | nil => rfl
  | cons a l ih =>
    rw [List.map_cons, List.any_cons, ih, List.contains_cons]
    congr 1
    simp only [peq]
    by_cases h : a = x
    · simp [h]
    · have h' : ¬ x = a := fun z => h z.symm
      simp [h, h']
section
variable {s : Sto}
@[simp] theorem c_in_ti {x : Int} {l : List Int} : cmpOp .in_ (.int x) (.tup (l.map D.int)) s = .ok (.bl (l.contains x)) s := by rw [c_in_t rfl (pures_int l) (Nat.zero_le _), any_int]
@[simp] theorem c_notin_ti {x : Int} {l : List Int} : cmpOp .notin (.int x) (.tup (l.map D.int)) s = .ok (.bl (!l.contains x)) s := by rw [c_notin_t rfl (pures_int l) (Nat.zero_le _), any_int]
theorem c_in_rs {x : Str} {l : List Str} {p : Nat} (h : s[p]? = some (.lst (l.map D.str))) : cmpOp .in_ (.str x) (.ref p) s = .ok (.bl (l.contains x)) s := by rw [c_in_r h rfl (pures_str l) (Nat.zero_le _), any_str]
theorem c_notin_rs {x : Str} {l : List Str} {p : Nat} (h : s[p]? = some (.lst (l.map D.str))) : cmpOp .notin (.str x) (.ref p) s = .ok (.bl (!l.contains x)) s := by rw [c_notin_r h rfl (pures_str l) (Nat.zero_le _), any_str]
@[simp] theorem c_in_s2 {x a b : Str} : cmpOp .in_ (.str x) (.tup [.str a, .str b]) s = .ok (.bl (decide (a = x) || decide (b = x))) s := by
  rw [c_in_t rfl rfl (Nat.zero_le _)]
  simp [peq]
end
/-! ### loops by what stays true -/
section
variable {F : Type} {C : F → List D → Sto → R D} {env : Env} {s : Sto}
@[simp] theorem wp_nox {α : Type} {r : R α} {P : α → Sto → Prop} : Wp r.nox P = Wp r P := by
  cases r with
  | ok a s => rfl
  | exc c fs s => show Wp R.err P = _; rw [wp_err, wp_exc]
  | err => rfl
def flP (I : Env → Sto → Prop) (P : Fl → Sto → Prop) (fl : Fl) (s : Sto) : Prop := match fl with
  | .nx e => I e s
  | .ct e => I e s
  | .bk e => P (.nx e) s
  | .ret d => P (.ret d) s
@[simp] theorem flP_nx {I : Env → Sto → Prop} {P : Fl → Sto → Prop} {e : Env} : flP I P (.nx e) s = I e s := nr rfl
@[simp] theorem flP_ct {I : Env → Sto → Prop} {P : Fl → Sto → Prop} {e : Env} : flP I P (.ct e) s = I e s := nr rfl
@[simp] theorem flP_bk {I : Env → Sto → Prop} {P : Fl → Sto → Prop} {e : Env} : flP I P (.bk e) s = P (.nx e) s := nr rfl
@[simp] theorem flP_ret {I : Env → Sto → Prop} {P : Fl → Sto → Prop} {d : D} : flP I P (.ret d) s = P (.ret d) s := nr rfl
theorem for_inv {α : Type} {tg : List Nat} {one : Bool} {b : Sxs F} {w : Option (Nat × List D)} {P : Fl → Sto → Prop} (f : α → D) (I : List α → Env → Sto → Prop)
    (hstep : ∀ a r env s, I (a :: r) env s → watch w s = true ∧ ∃ env2, bindT tg one (f a) env = some env2 ∧ Wp (evSs C b env2 s) (flP (I r) P))
    (hend : ∀ env s, I [] env s → watch w s = true ∧ P (.nx env) s) : ∀ (l : List α) (env : Env) (s : Sto), I l env s → Wp (forB C tg one b w (l.map f) env s) P
  | [], env, s, h => by
    obtain ⟨h1, h2⟩ := hend env s h
    rw [List.map_nil, forB_nil, h1, when_t, wp_ok]
    exact h2
  | a :: r, env, s, h => by
    obtain ⟨h1, env2, h2, h3⟩ := hstep a r env s h
    rw [List.map_cons, forB_cons, h1, h2, when_t, optR_some, wp_bind]
    refine h3.imp fun fl s' q => ?_
    cases fl with
    | nx e => exact for_inv f I hstep hend r e s' q
    | ct e => exact for_inv f I hstep hend r e s' q
    | bk e => rw [flR_bk, wp_ok]; exact q
    | ret d => rw [flR_ret, wp_ok]; exact q
theorem lc_inv {α : Type} {tg : List Nat} {one : Bool} {e : Ex F} {c : OEx F} {w : Option (Nat × List D)} {P : List D → Sto → Prop} (f : α → D) (I : List α → Sto → List D → Prop)
    (hstep : ∀ a r s acc, I (a :: r) s acc → watch w s = true ∧ ∃ env2, bindT tg one (f a) (wipe env tg) = some env2 ∧ Wp (evC C c env2 s) fun b s1 => if b = true then Wp (evE C e env2 s1) (fun y s2 => I r s2 (acc ++ [y])) else I r s1 acc)
    (hend : ∀ s acc, I [] s acc → watch w s = true ∧ P acc s) : ∀ (l : List α) (s : Sto) (acc : List D), I l s acc → Wp (lcB C tg one e c env w (l.map f) s acc) P
  | [], s, acc, h => by
    obtain ⟨h1, h2⟩ := hend s acc h
    rw [List.map_nil, lcB_nil, h1, when_t, wp_ok]
    exact h2
  | a :: r, s, acc, h => by
    obtain ⟨h1, env2, h2, h3⟩ := hstep a r s acc h
    rw [List.map_cons, lcB_cons, h1, h2, when_t, optR_some, wp_bind, wp_nox]
    refine h3.imp fun b s1 q => ?_
    by_cases hb : b = true
    · rw [if_pos hb] at q ⊢
      rw [wp_bind, wp_nox]
      exact q.imp fun y s2 q2 => lc_inv f I hstep hend r s2 _ q2
    · rw [if_neg hb] at q ⊢
      exact lc_inv f I hstep hend r s1 _ q
/-- a comprehension that changes nothing -/
theorem lc_pure {α : Type} {tg : List Nat} {one : Bool} {e : Ex F} {c : OEx F} {w : Option (Nat × List D)} (l : List α) (f : α → D) (p : α → Bool) (g : α → D) (hw : watch w s = true)
    (h : ∀ a ∈ l, ∃ env2, bindT tg one (f a) (wipe env tg) = some env2 ∧ evC C c env2 s = .ok (p a) s ∧ (p a = true → evE C e env2 s = .ok (g a) s)) :
    lcB C tg one e c env w (l.map f) s [] = .ok ((l.filter p).map g) s := by
  have go : ∀ (l : List α) (acc : List D), (∀ a ∈ l, ∃ env2, bindT tg one (f a) (wipe env tg) = some env2 ∧ evC C c env2 s = .ok (p a) s ∧ (p a = true → evE C e env2 s = .ok (g a) s)) → lcB C tg one e c env w (l.map f) s acc = .ok (acc ++ (l.filter p).map g) s := by
    intro l
    induction l with
    | nil => intro acc _; rw [List.map_nil, lcB_nil, hw]; simp
    | cons a r ih =>
      intro acc h
      obtain ⟨env2, h1, h2, h3⟩ := h a (List.mem_cons_self ..)
      rw [List.map_cons, lcB_cons, hw, h1, when_t, optR_some, h2, nox_ok, bind_ok]
      have ih' := fun acc => ih acc fun x hx => h x (List.mem_cons_of_mem _ hx)
      cases hp : p a with
      | true => rw [if_pos rfl, h3 hp, nox_ok, bind_ok, ih', List.filter_cons_of_pos hp]; simp
      | false => rw [if_neg (by decide), ih', List.filter_cons_of_neg (by simp [hp])]
  simpa using go l [] h
theorem lc_map {α : Type} {tg : List Nat} {one : Bool} {e : Ex F} {w : Option (Nat × List D)} (l : List α) (f : α → D) (g : α → D) (hw : watch w s = true)
    (h : ∀ a ∈ l, ∃ env2, bindT tg one (f a) (wipe env tg) = some env2 ∧ evE C e env2 s = .ok (g a) s) :
    lcB C tg one e .none env w (l.map f) s [] = .ok (l.map g) s := by
  rw [lc_pure l f (fun _ => true) g hw fun a ha => by
    obtain ⟨env2, h1, h2⟩ := h a ha
    exact ⟨env2, h1, c_none, fun _ => h2⟩]
  rw [List.filter_eq_self.mpr fun _ _ => rfl]
@[simp] theorem tuple_last {s : Sto} {l : List D} : bltOp .tuple [.ref s.length] (s ++ [O.lst l]) = .ok (.tup l) (s ++ [O.lst l]) := tuple_r (by simp)
theorem cps_of (a : String) : (Str.ofString a).cps.toList = a.toList.map Char.toNat := by rw [Str.ofString_eq_toList]
theorem le1 {a c : Nat} : ([a] ≤ [c]) = (a ≤ c) := by
  apply propext
  constructor
  · intro h
    rcases Nat.lt_or_ge c a with q | q
    · exact absurd (List.Lex.rel q : List.Lex (· < ·) [c] [a]) h
    · exact q
  · intro h q
    cases q with
    | rel z => omega
    | cons z => cases z
end
theorem gc_new {s0 s : Sto} {r : Nat} {o : O} (h : s[r]? = some o) (ht : s.take s0.length = s0) (hr : s0.length ≤ r) (hu : o.up s0.length = true) : gcR .new s0 (.ref r) s = .ok (.ref s0.length) (s0 ++ [o]) := by
  simp [gcR, h, ht, hr, hu]
theorem take_upd {s s0 : Sto} {o : O} {n : Nat} (h : s.take n = s0) : (s.set n o).take n = s0 := by
  rw [List.take_set, h, ← h, List.set_eq_of_length_le (by simp; omega)]
theorem take_more {s g s0 : Sto} {n : Nat} (h : s.take n = s0) (hn : n ≤ s.length) : (s ++ g).take n = s0 := by
  rw [List.take_append_of_le_length hn, h]
/-! ### a walk over a dict -/
theorem wp_unlock {p : Nat} {l : List (DKey × D)} {r : R Fl} {P : Fl → Sto → Prop} (h : Wp r fun f s => s[p]? = some (.dct true l) ∧ P f (s.set p (.dct false l))) : Wp (unlock p l r) P := by
  cases r with
  | ok f s =>
    rw [wp_ok] at h
    obtain ⟨h1, h2⟩ := h
    show Wp (when (decide (s[p]? = some (.dct true l))) (.ok f (s.set p (.dct false l)))) P
    rw [wp_when, wp_ok]
    exact ⟨decide_eq_true h1, h2⟩
  | exc c fs s => rw [wp_exc] at h; exact h.elim
  | err => rw [wp_err] at h; exact h.elim
/-! ### texts in order -/
abbrev Lt (a b : Str) : Prop := a.cps.toList < b.cps.toList
theorem str_ext {a b : Str} (h : a.cps.toList = b.cps.toList) : a = b := by
  cases a; cases b
  congr 1
  exact Array.toList_inj.mp h
theorem Lt.of {a b : Str} (h : ¬ Lt a b) (h2 : ¬ a = b) : Lt b a := by
  have h3 : b.cps.toList ≤ a.cps.toList := List.not_lt.mp h
  rcases Decidable.em (b.cps.toList < a.cps.toList) with q | q
  · exact q
  · exact absurd (str_ext (List.le_antisymm (List.not_lt.mp q) h3)) h2
theorem insS_mem {k z : Str} : ∀ {l : List Str}, z ∈ insS k l → z = k ∨ z ∈ l
  | [], h => by simp [insS] at h; exact .inl h
  | a :: l, h => by
    unfold insS at h
    split at h
    · simpa using h
    · split at h
      · exact .inr h
      · rcases List.mem_cons.mp h with h | h
        · exact .inr (by rw [h]; exact List.mem_cons_self ..)
        · exact (insS_mem h).elim .inl fun q => .inr (List.mem_cons_of_mem _ q)
theorem insS_sorted (k : Str) : ∀ {l : List Str}, l.Pairwise Lt → (insS k l).Pairwise Lt
  | [], _ => by simp [insS]
  | a :: l, h => by
    obtain ⟨h1, h2⟩ := List.pairwise_cons.mp h
    unfold insS
    split
    · rename_i c
      refine List.pairwise_cons.mpr ⟨fun z hz => ?_, h⟩
      rcases List.mem_cons.mp hz with e | hz
      · rw [e]; exact c
      · exact List.lt_trans c (h1 z hz)
    · split
      · exact h
      · rename_i c1 c2
        refine List.pairwise_cons.mpr ⟨fun z hz => ?_, insS_sorted k h2⟩
        rcases insS_mem hz with e | hz
        · rw [e]; exact Lt.of c1 c2
        · exact h1 z hz
theorem sorted_nd {l : List Str} (h : l.foldr insS [] = l) : l.Nodup := by
  have q : ∀ l : List Str, (l.foldr insS []).Pairwise Lt := fun l => by
    induction l with
    | nil => exact .nil
    | cons a l ih => exact insS_sorted a ih
  have := q l
  rw [h] at this
  exact this.imp fun {a b} h e => by
    subst e
    exact List.lt_irrefl _ h
end SB.Ev
end

section
set_option maxHeartbeats 4000000
namespace SB
open PySem PySem.Spec PyProof.Rows L2

/-! ### sets made of a list, whatever the kind of their keys -/
section
variable {P : Program} {w : World} {K : Type} [DecidableEq K] (knd : KeyKind P w K)
/-- an entry of the key k -/
def EntOf (p : K × (Int × Value)) : Prop := knd.is p.1 p.2.2 = true ∧ p.2.1 = knd.hash p.1 ∧ p.2.2.scannable = true
/-- the set at a has these keys, each once; it can be walked -/
def SetG (h : Heap) (a : Addr) (ks : List K) : Prop :=
  ∃ (o : Obj) (es : Array (Int × Value)) (ep : Nat) (t : SetTable) (ps : List (K × (Int × Value))), h.get? a = some o ∧ o.ExactSet ∧ o.data = .set es ep t ∧ es.toList.Perm (ps.map (·.2)) ∧ (∀ p ∈ ps, EntOf knd p) ∧ ps.map (·.1) = ks ∧ ks.Nodup ∧
    es.size < scanBound ∧ t.fits es.size = true ∧ Ris t.place.toList ∧ (w.params.followText "set-order" = true ∨ t.led = true)
end
section
variable {P : Program} {w : World} {K : Type} [DecidableEq K] {knd : KeyKind P w K} {h h' : Heap} {a : Addr} {ks : List K}
theorem SetG.at_ (R : SetG knd h a ks) (f : ∀ o, h.get? a = some o → h'.get? a = some o) : SetG knd h' a ks := by
  obtain ⟨o, es, ep, t, ps, h1, r⟩ := R
  exact ⟨o, es, ep, t, ps, f o h1, r⟩
theorem ents_el {es : List (Int × Value)} {ps : List (K × (Int × Value))} (pm : es.Perm (ps.map (·.2))) (hp : ∀ p ∈ ps, EntOf knd p) : ElemsOf knd es := fun e he => by
  obtain ⟨p, h1, rfl⟩ := List.mem_map.mp (pm.mem_iff.mp he)
  obtain ⟨q1, q2, q3⟩ := hp p h1
  exact ⟨⟨p.1, q1, q2⟩, q3⟩
theorem ents_in {es : List (Int × Value)} {ps : List (K × (Int × Value))} (pm : es.Perm (ps.map (·.2))) (hp : ∀ p ∈ ps, EntOf knd p) (k : K) : (∃ e ∈ es, knd.is k e.2 = true) ↔ k ∈ ps.map (·.1) := by
  constructor
  · rintro ⟨e, he, hk⟩
    obtain ⟨p, h1, rfl⟩ := List.mem_map.mp (pm.mem_iff.mp he)
    exact List.mem_map.mpr ⟨p, h1, knd.inj _ _ _ (hp p h1).1 hk⟩
  · intro hk
    obtain ⟨p, h1, rfl⟩ := List.mem_map.mp hk
    exact ⟨p.2, pm.mem_iff.mpr (List.mem_map.mpr ⟨p, h1, rfl⟩), (hp p h1).1⟩
variable {A : Around} {E : Value → Shared → Prop} {s : Shared}
theorem put_at_ {o : Obj} {es es2 : Array (Int × Value)} {ep : Nat} {t t2 : SetTable} {hp : Heap} (h1 : hp.get? a = some o) (h2 : o.data = .set es ep t) :
    (hp.update a (Obj.putSet es2 t2)).get? a = some { o with data := .set es2 (ep + 1) t2 } := by
  have := Heap.get?_update_self (Obj.putSet es2 t2) h1 (by rw [putSet_of es2 t2 h2]; rfl)
  rwa [putSet_of es2 t2 h2] at this
/-- the end of an add: the new entries are laid, the table grows where it must -/
theorem add_end {gw : Bool → Sem Unit} (hg : ∀ (b : Bool) (z : Shared) (Q' : Unit → Shared → Prop), Q' () z → wpAny (model P w) A (gw b) Q' E z) {o : Obj} {es : Array (Int × Value)} {ep : Nat} {t : SetTable} (ho : s.heap.get? a = some o) (hx : o.ExactSet) (hd : o.data = .set es ep t)
    {fs : Array (Int × Value)} {u : SetTable} {ps : List (K × (Int × Value))} (pm : fs.toList.Perm (ps.map (·.2))) (hp : ∀ p ∈ ps, EntOf knd p) (nd : (ps.map (·.1)).Nodup) (hb : fs.size < scanBound) (hf : u.fits fs.size = true) (hr : Ris u.place.toList) (hl : w.params.followText "set-order" = true ∨ u.led = true)
    {dummy : Bool} {R : Option Bool → Shared → Prop} (hR : ∀ hh, Heap.SameBut a s.heap hh → SetG knd hh a (ps.map (·.1)) → R (some true) { s with heap := hh }) :
    wpAny (model P w) A (do
        storeSet a fs u
        if (!dummy && u.tooFull) = true then do
            gw (relayAll u fs (SetTable.grown fs.size)).2.2
            storeSet a (relayAll u fs (SetTable.grown fs.size)).1 (relayAll u fs (SetTable.grown fs.size)).2.1
            pure (some true)
          else pure (some true)) R E s := by
  refine wpAny_bind (wpAny_storeSet_of ho hd ?_ (fits_of_scanBound hb))
  have o1 := put_at_ (es2 := fs) (t2 := u) ho hd
  have same1 := Heap.SameBut.update s.heap a (Obj.putSet fs u)
  by_cases hfull : (!dummy && u.tooFull) = true
  · rw [if_pos hfull]
    have p2 := relayAll_perm u fs (SetTable.grown fs.size)
    have f2 := relayAll_fits u fs (SetTable.grown fs.size)
    have r2 := relayAll_ris u fs (SetTable.grown fs.size)
    have l2 := relayAll_led u fs (SetTable.grown fs.size)
    generalize relayAll u fs (SetTable.grown fs.size) = Z at p2 f2 r2 l2 ⊢
    obtain ⟨fs2, u2, gv⟩ := Z
    simp only at p2 f2 r2 l2 ⊢
    have hz : fs2.size = fs.size := by
      have := p2.length_eq
      simpa using this
    refine wpAny_bind (hg _ _ _ (wpAny_bind (wpAny_storeSet_of o1 rfl ?_ (fits_of_scanBound (by rw [hz]; exact hb)))))
    have o2 := put_at_ (es2 := fs2) (t2 := u2) o1 rfl
    exact wpAny_pure (hR _ (same1.trans (Heap.SameBut.update _ a _)) ⟨_, fs2, _, u2, ps, o2, hx, rfl, p2.trans pm, hp, rfl, nd, by rw [hz]; exact hb, f2, r2, hl.imp id fun z => by rw [l2]; exact z⟩)
  · rw [if_neg hfull]
    exact wpAny_pure (hR _ same1 ⟨_, fs, _, u, ps, o1, hx, rfl, pm, hp, rfl, nd, hb, hf, hr, hl⟩)
def addK (ks : List K) (k : K) : List K := if k ∈ ks then ks else k :: ks
theorem add_hash {k : K} {v : Value} {Q : Bool → Shared → Prop} (R : SetG knd s.heap a ks) (hk : knd.is k v = true) (hv : v.scannable = true) (room : ks.length + 1 < scanBound)
    (hQ : ∀ (hh : Heap) (b : Bool), Heap.SameBut a s.heap hh → SetG knd hh a (addK ks k) → Q b { s with heap := hh }) : wpAny (model P w) A (setAddHashed a v (knd.hash k)) Q E s := by
  obtain ⟨o, es, ep, t, ps, ho, hx, hd, pm, hp, hks, nd, hb, hf, hr, hl⟩ := R
  have el := ents_el pm hp
  have hsz : es.size = ks.length := by
    have := pm.length_eq
    rw [← hks]
    simpa using this
  unfold setAddHashed setAddHashedIn
  refine wpAny_holding (wpAny_bind (wpAny_setState_of ho hd hf ?_))
  simp only
  rw [byScan_of hv hb el]
  simp only [↓reduceIte]
  unfold setAddByScan
  refine wpAny_bind (wpAny_bind (wpAny_rule (wpAny_bind (wpAny_setScan_of hk ho hd hf el ?_))))
  cases fi : es.toList.findIdx? (fun e => knd.is k e.2) with
  | some j =>
    obtain ⟨hj, pj, _⟩ := List.findIdx?_eq_some_iff_getElem.mp fi
    have hm : k ∈ ks := by rw [← hks]; exact (ents_in pm hp k).mp ⟨_, List.getElem_mem hj, pj⟩
    refine wpAny_pure (wpAny_pure ?_)
    have q := hQ s.heap false (Heap.SameBut.refl a s.heap)
    unfold addK at q
    rw [if_pos hm] at q
    exact q ⟨o, es, ep, t, ps, ho, hx, hd, pm, hp, hks, nd, hb, hf, hr, hl⟩
  | none =>
    have hm : k ∉ ks := fun z => by
      rw [← hks] at z
      obtain ⟨e, he, q⟩ := (ents_in pm hp k).mpr z
      have := List.findIdx?_eq_none_iff.mp fi e he
      rw [q] at this
      cases this
    have p1 := layNew_perm t es (knd.hash k) v
    have f1 := layNew_fits t es (knd.hash k) v
    have r1 := layNew_ris t es (knd.hash k) v hr
    have l1 := layNew_led t es (knd.hash k) v
    simp only
    generalize layNew t es (knd.hash k) v = Z at p1 f1 r1 l1 ⊢
    obtain ⟨fs, u, dm, gv⟩ := Z
    simp only at p1 f1 r1 l1 ⊢
    have pm2 : fs.toList.Perm (((k, (knd.hash k, v)) :: ps).map (·.2)) := by
      rw [Array.toList_push] at p1
      exact (p1.trans (List.perm_append_singleton _ _)).trans (pm.cons _)
    have hp2 : ∀ p ∈ (k, (knd.hash k, v)) :: ps, EntOf knd p := fun p h => by
      rcases List.mem_cons.mp h with e | h
      · rw [e]; exact ⟨hk, rfl, hv⟩
      · exact hp p h
    have nd2 : (((k, (knd.hash k, v)) :: ps).map (·.1)).Nodup := by
      rw [List.map_cons, hks]
      exact List.nodup_cons.mpr ⟨hm, nd⟩
    have hz2 : fs.size < scanBound := by
      have := pm2.length_eq
      simp at this
      have e2 : ps.length = ks.length := by rw [← hks]; simp
      omega
    have hl2 : w.params.followText "set-order" = true ∨ u.led = true := hl.imp id fun z => by rw [l1]; exact z
    have fin : ∀ hh, Heap.SameBut a s.heap hh → SetG knd hh a (((k, (knd.hash k, v)) :: ps).map (·.1)) → Q true { s with heap := hh } := fun hh sb r => by
      have q := hQ hh true sb
      unfold addK at q
      rw [if_neg hm] at q
      rw [List.map_cons, hks] at r
      exact q r
    refine wpAny_bind (show wpAny _ _ (match gv with | true => rule "set.scan.the-table-gave-way" | false => pure ()) _ _ _ from ?_)
    have gw : ∀ (b : Bool) (z : Shared) (Q' : Unit → Shared → Prop), Q' () z → wpAny (model P w) A (match b with | true => rule "set.scan.the-table-gave-way" | false => pure ()) Q' E z :=
      fun b z Q' q => by cases b <;> first | exact wpAny_pure q | exact wpAny_rule q
    refine gw gv _ _ ?_
    split
    · refine wpAny_bind ?_
      rw [hashByValue_scannable 8 hv]
      refine wpAny_pure ?_
      refine add_end (fun b z Q' q => gw b z Q' q) ho hx hd pm2 hp2 nd2 hz2 ?_ ?_ ?_ fun hh sb r => by simp only; exact wpAny_pure (fin hh sb r)
      · first | (split <;> first | exact f1 | exact SetTable.fits_plain_off f1) | exact f1
      · first | (split <;> exact r1) | exact r1
      · first | (split <;> exact hl2) | exact hl2
    · refine wpAny_bind (wpAny_pure ?_)
      simp only [↓reduceIte]
      exact add_end (fun b z Q' q => gw b z Q' q) ho hx hd pm2 hp2 nd2 hz2 f1 r1 hl2 fun hh sb r => by simp only; exact wpAny_pure (fin hh sb r)
theorem addK_len (ks : List K) (k : K) : (addK ks k).length ≤ ks.length + 1 := by
  unfold addK
  split
  · omega
  · simp
def addAll (xs : List K) : List K := xs.foldl addK []
theorem addAll_len (xs : List K) : (addAll xs).length ≤ xs.length := by
  have : ∀ (xs ks : List K), (xs.foldl addK ks).length ≤ ks.length + xs.length := by
    intro xs
    induction xs with
    | nil => intro ks; simp
    | cons x xs ih =>
      intro ks
      have h1 := ih (addK ks x)
      have h2 := addK_len ks x
      simp only [List.foldl_cons, List.length_cons]
      omega
  simpa [addAll] using this xs []
theorem addAll_mem (xs : List K) (k : K) : k ∈ addAll xs ↔ k ∈ xs := by
  have : ∀ (xs ks : List K), k ∈ xs.foldl addK ks ↔ k ∈ ks ∨ k ∈ xs := by
    intro xs
    induction xs with
    | nil => intro ks; simp
    | cons x xs ih =>
      intro ks
      rw [List.foldl_cons, ih, List.mem_cons]
      unfold addK
      by_cases h : x ∈ ks
      · rw [if_pos h]
        constructor
        · rintro (a | a)
          · exact .inl a
          · exact .inr (.inr a)
        · rintro (a | a | a)
          · exact .inl a
          · exact .inl (a ▸ h)
          · exact .inr a
      · rw [if_neg h, List.mem_cons]
        constructor
        · rintro ((a | a) | a)
          · exact .inr (.inl a)
          · exact .inl a
          · exact .inr (.inr a)
        · rintro (a | a | a)
          · exact .inl (.inr a)
          · exact .inl (.inl a)
          · exact .inr a
  simpa [addAll] using this xs []
/-- set.update over a walk whose values are these keys -/
theorem upd_walk {I : Addr} {fp wr : List Addr} {G : Array GenState → Array GenState → Prop} {n : Nat} {Pv : Nat → Value → Prop} {St : Nat → Shared → Prop} {R : Result → Shared → Prop}
    (W : WalksS P w A.in1 I fp wr G n Pv St) (D : Addr) (out : D ∉ fp) (xs : List K) (len : n = xs.length) (room : xs.length + 1 < scanBound) (val : ∀ i v, Pv i v → ∃ k, xs[i]? = some k ∧ knd.is k v = true ∧ v.scannable = true) :
    ∀ (m i : Nat) (z : Shared), n - i = m → i ≤ n → St i z → SetG knd z.heap D (addAll (xs.take i)) →
      (∀ z', Moved (D :: wr) G z z' → SetG knd z'.heap D (addAll xs) → R (.ok (.ret .none)) z') →
      codeAny (model P w) A (.builtin "set.update.loop" ⟨[.ref D, .ref I], []⟩) R z := by
  have nw : D ∉ wr := fun q => out (W.sub _ q)
  have sub2 : ∀ b ∈ wr, b ∈ D :: wr := fun b q => List.mem_cons_of_mem _ q
  intro m
  induction m with
  | zero =>
    intro i z hm hi st sg fin
    obtain rfl : i = n := by omega
    refine codeAny_builtin F.entry_set_update_loop ?_
    rw [Around.under_plainId F.plain_set_update_loop _]
    show wpAny _ A.in1 (pyNext (.ref I) >>= _) _ _ z
    refine wpAny_bind (W.done z _ _ st fun z' mv => ?_)
    have e : xs.take i = xs := List.take_of_length_le (by omega)
    rw [e] at sg
    exact wpAny_pure (fin z' (mv.mono sub2) (sg.at_ fun o q => mv.heap D o nw q))
  | succ m ih =>
    intro i z hm hi st sg fin
    have lt : i < n := by omega
    refine codeAny_builtin F.entry_set_update_loop ?_
    rw [Around.under_plainId F.plain_set_update_loop _]
    show wpAny _ A.in1 (pyNext (.ref I) >>= _) _ _ z
    refine wpAny_bind (W.item i z _ _ lt st fun v z' pv st' mv => ?_)
    obtain ⟨k, hk, is, sc⟩ := val i v pv
    have sg' : SetG knd z'.heap D (addAll (xs.take i)) := sg.at_ fun o q => mv.heap D o nw q
    show wpAny _ A.in1 (holding [v] (setAdd D v) >>= _) _ _ z'
    refine wpAny_bind (wpAny_holding ?_)
    unfold setAdd
    refine wpAny_holding (wpAny_bind (knd.pyHash is ?_))
    have ll := addAll_len (xs.take i)
    have lt2 : (xs.take i).length ≤ xs.length := by rw [List.length_take]; omega
    refine add_hash (s := { z' with toks := z'.toks + 1 }) sg' is sc (by omega) fun hh b sb sg2 => ?_
    have e2 : addK (addAll (xs.take i)) k = addAll (xs.take (i + 1)) := by
      rw [List.take_add_one, hk]
      simp [addAll, List.foldl_append]
    rw [e2] at sg2
    refine wpAny_pure ⟨plainId_quiet F.plain_set_update_loop _, ih (i + 1) _ (by omega) lt (W.frame _ z' _ _ st' (Nat.le_succ _) fun c hc o q => ?_) sg2 fun z2 mv2 sg3 => ?_⟩
    · rw [sb.2 c (fun q2 : c = D => out (by rw [← q2]; exact hc))]; exact q
    · refine fin z2 (Moved.trans W.gtrans ((mv.mono sub2).then_heap (Nat.le_succ _) fun c o hc q => ?_) mv2) sg3
      rw [sb.2 c (fun q2 : c = D => hc (by rw [q2]; exact List.mem_cons_self))]; exact q
abbrev emptyS (w : World) : Obj := { cls := .type "set", dict := none, data := .set #[] 0 (.fresh 0 0 (!w.params.followText "set-order")) }
theorem SetG.fresh {hp : Heap} (ho : hp.get? a = some (emptyS w)) : SetG knd hp a (addAll ([] : List K)) :=
  ⟨_, #[], 0, _, [], ho, ⟨rfl, rfl, rfl⟩, rfl, List.Perm.refl _, (fun _ q => nomatch q), rfl, List.nodup_nil, by decide, rfl, List.Pairwise.nil, by
    show _ ∨ (!w.params.followText "set-order") = true
    cases w.params.followText "set-order" with
    | false => exact .inr rfl
    | true => exact .inl rfl⟩
/-- set(l) of a list whose items are keys -/
theorem set_of_list {l : Addr} {its : Array Value} (xs : List K) {Q : Value → Shared → Prop} (hh : A.handled = none) (isl : s.heap.IsList l its) (len : its.size = xs.length) (room : xs.length + 1 < scanBound)
    (val : ∀ (i : Nat) (v : Value), its[i]? = some v → ∃ k, xs[i]? = some k ∧ knd.is k v = true ∧ v.scannable = true)
    (fin : ∀ (hp : Heap) (tk : Nat), SetG knd hp s.heap.objs.size (addAll xs) → (∀ b o, s.heap.get? b = some o → hp.get? b = some o) → Q (.ref s.heap.objs.size) { s with heap := hp, toks := tk }) :
    wpAny (model P w) A (call (.type "set") [.ref l]) Q E s := by
  obtain ⟨mc, mt, mro⟩ := F.called_set.mro
  have c1 := F.called_set.made
  have c2 := F.called_set.sub
  refine wpAny_call (codeAny_of_tree ?_)
  show wpAny _ _ (callAny (.type "set") _) _ _ _
  refine wpAny_pure ⟨Code.quiet_builtin _ (by decide +kernel), codeAny_builtin F.entry_type_call ?_⟩
  rw [Around.under_plain (weight_type_call_type "set" [.ref l] []) rfl]
  have c3 := F.called_set.notType
  have c4 := F.called_set.canCreate
  have c5 := F.typeCall_set_1 (.ref l)
  repeat (any_goals (first | assumption | wp_step))
  refine codeAny_mono (code_set_led1 (.ref l) (E := E) (Q₁ := fun ob z => ob = .ref s.heap.objs.size ∧ z = { s with heap := s.heap.push (emptyS w) }) ⟨rfl, rfl⟩) fun r z hr => ?_
  cases r with
  | error e => exact hr
  | ok fl =>
    cases fl with
    | ret ob =>
      obtain ⟨rfl, rfl⟩ := hr
      have atS : (s.heap.push (emptyS w)).get? s.heap.objs.size = some (emptyS w) := Heap.get?_push_size _ rfl
      have tyS : Shared.TypeIs { s with heap := s.heap.push (emptyS w) } (.ref s.heap.objs.size) "set" := ⟨_, atS, rfl⟩
      have c6 := F.called_set.init.lookup
      have c7 := F.called_set.init.bind (.ref s.heap.objs.size)
      repeat (any_goals (first | assumption | wp_step))
      refine codeAny_mono (codeAny_call_builtin (R := wants (fun r z2 => r = .none ∧ ∃ hp tk, z2 = { s with heap := hp, toks := tk } ∧ SetG knd hp s.heap.objs.size (addAll xs) ∧ (∀ b o, s.heap.get? b = some o → hp.get? b = some o)) E) F.called_set.init.plain F.entry_set_init (check_set_init_1 tyS ?_)) fun r2 z2 hr2 => ?_
      · obtain ⟨lo, hlo, lc, ln, ld⟩ := isl
        obtain ⟨oc, od, dt, sl⟩ := lo
        simp only at lc ld
        subst lc
        subst ld
        have hlo2 : (s.heap.push (emptyS w)).get? l = some { cls := .type "list", dict := od, data := .seq its ln, slots := sl } := Heap.get?_push_of_some _ hlo
        have c8 := F.sub_list_set
        have c9 := F.sub_list_frozenset
        have c10 : (Value.type "list" == Value.type "dict") = false := by decide
        have isl2 : (s.heap.push (emptyS w)).IsList l its := ⟨_, hlo2, rfl, ln, rfl⟩
        unfold Builtin.«set.__init__» noKeywords Builtin.Frozenset.updateFrom
        generalize hIt : pyIter = It0
        wp_walk
        subst hIt
        refine wpAny_pyIter_list isl2 (wpAny_bind (wpAny_runValue ?_))
        have lt0 : l < s.heap.objs.size := Heap.lt_size hlo
        have hh2 : A.in1.in1.in1.handled = none := by simp [hh]
        have sz2 : (s.heap.push (emptyS w)).objs.size = s.heap.objs.size + 1 := Heap.size_push ..
        have ne1 : l ≠ (s.heap.push (emptyS w)).objs.size := by rw [sz2]; exact Nat.ne_of_lt (Nat.lt_succ_of_lt lt0)
        have nin : s.heap.objs.size ∉ [(s.heap.push (emptyS w)).objs.size, l] := by
          rw [sz2]
          simp only [List.mem_cons, List.not_mem_nil, or_false, not_or]
          exact ⟨Nat.ne_of_lt (Nat.lt_succ_self _), Nat.ne_of_gt lt0⟩
        refine upd_walk ((Walks.list hh2 _ l ne1 its).toS) s.heap.objs.size nin xs len room val (its.size - 0) 0 _ (by omega) (Nat.zero_le _) ⟨⟨_, Heap.get?_push_size _ rfl, rfl, rfl⟩, (isl2.push _)⟩ ?sg0 ?fin0
        case sg0 => exact SetG.fresh (Heap.get?_push_of_some _ atS)
        case fin0 =>
          intro z3 mv sg3
          obtain ⟨hp, gs, dr, tk, os⟩ := z3
          obtain rfl : gs = s.gens := mv.gens
          obtain rfl : dr = s.drawn := mv.drawn
          obtain rfl : os = s.os := mv.os
          show wpAny _ _ _ _ _ _
          refine wpAny_pure ?_
          show wpAny _ _ (ret Value.none) _ _ _
          refine wpAny_pure ⟨rfl, hp, tk, rfl, sg3, fun b o e => ?_⟩
          have lb : b < s.heap.objs.size := Heap.lt_size e
          refine mv.heap b o ?_ (Heap.get?_push_of_some _ (Heap.get?_push_of_some _ e))
          simp only [List.mem_cons, List.not_mem_nil, or_false, not_or, sz2]
          exact ⟨Nat.ne_of_lt lb, Nat.ne_of_lt (Nat.lt_succ_of_lt lb)⟩
      · cases r2 with
        | error e => exact hr2
        | ok f2 =>
          cases f2 with
          | ret r =>
            obtain ⟨rfl, hp, tk, rfl, sg, kp⟩ := hr2
            repeat (any_goals (first | assumption | wp_step))
            exact fin _ _ sg kp
          | _ => exact hr2.elim
    | _ => exact hr.elim
end
end SB
end

section
set_option maxHeartbeats 4000000
namespace SB
open PySem PySem.Spec PyProof.Rows L2 PySem.W
section
variable {P : Program} {w : World} {A : Around} {E : Value → Shared → Prop} {s : Shared} {a : Addr} {ks : List Str}
abbrev IsTx (v : Value) (z : Str) : Prop := ∃ tk, v = .str z tk
def txt : Value → Str
  | .str z _ => z
  | _ => Str.empty
theorem sorted_texts {Q : Value → Shared → Prop} (R : SetG (PySem.strKind P w) s.heap a ks) (hh : A.handled = none) (hu : A.units + 100 < cLine)
    (hQ : ∀ (z : Shared) (p : Addr) (out : List Value) (c : Nat), (∀ b o, s.heap.get? b = some o → z.heap.get? b = some o) → z.gens = s.gens → z.os = s.os → s.heap.objs.size ≤ p →
      z.heap.get? p = some (seqObj "list" out.toArray c) → (∃ rs : List Str, rs.Perm ks ∧ EachIs IsTx out (rs.mergeSort fun x y => decide (x.cps.toList ≤ y.cps.toList))) → Q (.ref p) z) :
    wpAny (model P w) A (call (.builtin "sorted") [.ref a]) Q E s := by
  obtain ⟨o, es, ep, t, ps, ho, hx, hd, pm, hp, hks, nd, hb, hf, hr, hl⟩ := R
  refine Calls.call_function_entry kind_sorted plain_sorted entry_sorted (args_sorted1 _) ?_
  unfold Builtin.«sorted»
  refine wpAny_bind (m := checkCount "sorted" 1 1 _) (wpAny_pure ?_)
  refine wpAny_bind (collect_set (A := A.in1) hh ⟨o, ho, hx.1, hd⟩ hf hb hr hl fun z vs k1 k2 k3 k4 pv => ?_)
  have pv2 : vs.Perm (ps.map fun p => p.2.2) := by
    have := pv.trans (pm.map (·.2))
    rwa [List.map_map] at this
  have tx1 : ∀ p ∈ ps, IsTx p.2.2 p.1 := fun p q => by
    obtain ⟨u, e⟩ := Value.isStrOf_shape (hp p q).1
    exact ⟨u, e⟩
  have tx2 : ∀ v ∈ vs, IsTx v (txt v) := fun v q => by
    obtain ⟨p, q1, rfl⟩ := List.mem_map.mp (pv2.mem_iff.mp q)
    obtain ⟨u, e⟩ := tx1 p q1
    exact ⟨u, by rw [e]; rfl⟩
  have rs : (vs.map txt).Perm ks := by
    have q1 := pv2.map txt
    rw [List.map_map] at q1
    have q2 : ps.map (txt ∘ fun p => p.2.2) = ps.map (·.1) := List.map_congr_left fun p q => by
      obtain ⟨u, e⟩ := tx1 p q
      show txt p.2.2 = p.1
      rw [e]
      rfl
    rw [q2, hks] at q1
    exact q1
  have vlen : vs.length = ks.length := by
    have := rs.length_eq
    simpa using this
  have klen : ks.length ≤ sizeLine := by
    have h1 := pm.length_eq
    have h2 := fits_of_scanBound hb
    have h3 : ps.length = ks.length := by rw [← hks]; simp
    simp at h1
    omega
  have each : ∀ l : List Value, (∀ v ∈ l, IsTx v (txt v)) → EachIs IsTx l (l.map txt) := by
    intro l
    induction l with
    | nil => intro _; exact .nil
    | cons v l ih => intro q; exact .cons (q v (List.mem_cons_self ..)) (ih fun x hx => q x (List.mem_cons_of_mem _ hx))
  have eI := each vs tx2
  refine wpAny_bind (wpAny_newList ?_ (by rw [vlen]; exact klen))
  have hoL : (z.heap.push (seqObj "list" vs.toArray 0)).get? z.heap.objs.size = some (seqObj "list" vs.toArray 0) := Heap.get?_push_size _ rfl
  refine wpAny_bind (wpAny_holding (PySem.W.list_sort_data (bs := vs.map txt) (enc := PyData.str) (R := IsTx) (s := { z with heap := z.heap.push (seqObj "list" vs.toArray 0) }) hoL eI (eI.mono fun v b q => by obtain ⟨u, rfl⟩ := q; exact ⟨[], .str _ _, by simp⟩) (AllAlike.of fun _ _ => rfl) (Sortable.others fun b => ⟨by simp, by simp⟩) (by rw [List.length_map, vlen]; exact klen) (fun b _ => by simp [PyData.depth]; omega) fun out olen eo => ?_))
  obtain ⟨c, hc⟩ := sortedHeap_at (vs := vs) (out := out.toArray) hoL
  rw [dataLe_str (fun x : Str => x)] at eo
  refine wpAny_pure ⟨_, rfl, hQ _ z.heap.objs.size out c (fun b u e => ?_) k3 k4 k2 hc ⟨_, rs, eo⟩⟩
  have q1 := k1 b u e
  have lb := Heap.lt_size q1
  show (sortedHeap (z.heap.push (seqObj "list" vs.toArray 0)) z.heap.objs.size vs out.toArray).get? b = some u
  rw [sortedHeap_old (Nat.ne_of_lt lb) (by rw [size_push']; exact Nat.lt_succ_of_lt lb)]
  exact Heap.get?_push_of_some _ q1
theorem same_sorted : ∀ (l r : List Str), l.Pairwise Ev.Lt → r.Pairwise Ev.Lt → (∀ z, z ∈ l ↔ z ∈ r) → l = r
  | [], [], _, _, _ => rfl
  | [], b :: r, _, _, h => by have := (h b).mpr (List.mem_cons_self ..); cases this
  | a :: l, [], _, _, h => by have := (h a).mp (List.mem_cons_self ..); cases this
  | a :: l, b :: r, h1, h2, h => by
    obtain ⟨a1, a2⟩ := List.pairwise_cons.mp h1
    obtain ⟨b1, b2⟩ := List.pairwise_cons.mp h2
    have e : a = b := by
      rcases List.mem_cons.mp ((h a).mp (List.mem_cons_self ..)) with e | q
      · exact e
      · rcases List.mem_cons.mp ((h b).mpr (List.mem_cons_self ..)) with e | q2
        · exact e.symm
        · exact absurd (List.lt_trans (b1 a q) (a1 b q2)) (List.lt_irrefl _)
    subst e
    refine congrArg (a :: ·) (same_sorted l r a2 b2 fun z => ⟨fun hz => ?_, fun hz => ?_⟩)
    · rcases List.mem_cons.mp ((h z).mp (List.mem_cons_of_mem _ hz)) with e | q
      · subst e; exact absurd (a1 z hz) (List.lt_irrefl _)
      · exact q
    · rcases List.mem_cons.mp ((h z).mpr (List.mem_cons_of_mem _ hz)) with e | q
      · subst e; exact absurd (b1 z hz) (List.lt_irrefl _)
      · exact q
theorem fold_ins (xs : List Str) : (xs.foldr insS []).Pairwise Ev.Lt ∧ ∀ z, z ∈ xs.foldr insS [] ↔ z ∈ xs := by
  have back : ∀ (k : Str) (l : List Str), k ∈ insS k l ∧ ∀ z ∈ l, z ∈ insS k l := by
    intro k l
    induction l with
    | nil => simp [insS]
    | cons a l ih =>
      unfold insS
      split
      · exact ⟨List.mem_cons_self .., fun z hz => List.mem_cons_of_mem _ hz⟩
      · split
        · rename_i e
          exact ⟨by rw [e]; exact List.mem_cons_self .., fun z hz => hz⟩
        · refine ⟨List.mem_cons_of_mem _ ih.1, fun z hz => ?_⟩
          rcases List.mem_cons.mp hz with e | hz
          · rw [e]; exact List.mem_cons_self ..
          · exact List.mem_cons_of_mem _ (ih.2 z hz)
  induction xs with
  | nil => exact ⟨.nil, fun z => by simp⟩
  | cons x xs ih =>
    refine ⟨Ev.insS_sorted x ih.1, fun z => ?_⟩
    rw [List.foldr_cons, List.mem_cons]
    constructor
    · intro h
      exact (Ev.insS_mem h).imp id fun q => (ih.2 z).mp q
    · rintro (e | q)
      · rw [e]; exact (back x _).1
      · exact (back x _).2 z ((ih.2 z).mpr q)
theorem sort_is (rs xs : List Str) (h : rs.Perm (addAll xs)) (nd : (addAll xs).Nodup) : (rs.mergeSort fun x y => decide (x.cps.toList ≤ y.cps.toList)) = xs.foldr insS [] := by
  obtain ⟨f1, f2⟩ := fold_ins xs
  have pm : (rs.mergeSort fun x y => decide (x.cps.toList ≤ y.cps.toList)).Perm rs := List.mergeSort_perm _ _
  have srt := List.pairwise_mergeSort (le := fun x y : Str => decide (x.cps.toList ≤ y.cps.toList)) (fun a b c h1 h2 => by
    simp only [decide_eq_true_eq] at h1 h2 ⊢
    exact List.le_trans h1 h2) (fun a b => by
    simp only [Bool.or_eq_true, decide_eq_true_eq]
    exact List.le_total _ _) rs
  have nd2 : (rs.mergeSort fun x y => decide (x.cps.toList ≤ y.cps.toList)).Nodup := (pm.trans h).nodup_iff.mpr nd
  refine same_sorted _ _ ?_ f1 fun z => ?_
  · refine (srt.and nd2).imp fun {a b} q => ?_
    obtain ⟨q1, q2⟩ := q
    simp only [decide_eq_true_eq] at q1
    exact Ev.Lt.of (List.not_lt.mpr q1) (fun e => q2 e.symm)
  · rw [(pm.trans h).mem_iff, addAll_mem, f2]
end
end SB
end

section
set_option maxHeartbeats 4000000
namespace SB
open PySem PySem.Spec PyProof.Rows L2 PySem.W
/-- the set of these texts at a -/
def SetTx (P : Program) (w : World) (a : Addr) (ks : List Str) : HO := .ext fun h => SetG (PySem.strKind P w) h a ks
theorem setTx_new {P : Program} {w : World} {H : Hp} {h : Heap} {a : Addr} {ks : List Str} (R : SetG (PySem.strKind P w) h a ks) : ObjOk P w H h a (SetTx P w a ks) := by
  have ⟨o, _, _, _, _, ho, _⟩ := R
  exact ⟨R, ⟨o, ho⟩, fun h1 h2 p k => SetG.at_ p k⟩
def rSetTx (K : PySem.W.Frag) (P : Program) (w : World) : List V → Hp → VK → Prop := fun xs H Q => ∃ a zs, xs = [V.ref a] ∧ SqL K H a (zs.map V.str) ∧ zs.length ≤ 60 ∧ ∀ p, H p = none → Q (.ref p) (upd H p (SetTx P w p (addAll zs)))
def rSortTx (P : Program) (w : World) : List V → Hp → VK → Prop := fun xs H Q => ∃ a zs, xs = [V.ref a] ∧ H a = some (SetTx P w a (addAll zs)) ∧ zs.length ≤ 60 ∧ ∀ p, H p = none → Q (.ref p) (upd H p (.lst ((zs.foldr insS []).map V.str)))
section
variable {X : Cx}
theorem strs_get : ∀ {us : List Value} {zs : List Str}, StrsAre us zs → ∀ (i : Nat) (v : Value), us[i]? = some v → ∃ k t, zs[i]? = some k ∧ v = .str k t
  | _, _, .nil, i, v, h => by simp at h
  | _, _, .cons k t r, 0, v, h => by simp at h; exact ⟨k, t, rfl, h.symm⟩
  | _, _, .cons k t r, i + 1, v, h => by
    simp at h
    simpa using strs_get r i v h
theorem cr_setTx (hc : X.calm = true) : CallR X (.type "set") (rSetTx X.K X.prog X.w) := by
  intro pins s σ H vs us Q I r h
  obtain ⟨a, zs, rfl, hs, hl, q⟩ := h
  obtain ⟨its, rv, pl, hz⟩ := I.list hs
  rw [Vals.ref1 r]
  have st := rv.strs
  have hlen : its.length = zs.length := by
    have := rv.length
    simpa using this.symm
  refine set_of_list (knd := PySem.strKind X.prog X.w) zs (I.ok.hd hc) pl.isList (by simpa using hlen) (by unfold scanBound; omega) (fun i v hv => ?_) fun hp tk sg kp => ?_
  · obtain ⟨k, t, h1, rfl⟩ := strs_get st i v (by simpa using hv)
    refine ⟨k, h1, ?_, rfl⟩
    show Value.isStrOf k (.str k t) = true
    simp [Value.isStrOf]
  · exact ⟨.ref _, upd H s.heap.objs.size (SetTx X.prog X.w s.heap.objs.size (addAll zs)), I.laid (t' := tk) kp (Nat.le_refl _) (setTx_new sg), rfl, q _ (I.hok.fresh (Nat.le_refl _))⟩
theorem each_vals : ∀ {out : List Value} {zs : List Str}, EachIs IsTx out zs → Vals (zs.map V.str) out
  | _, _, .nil => .nil
  | _, _, .cons h t => .cons h (each_vals t)
theorem insS_len (k : Str) : ∀ l : List Str, (insS k l).length ≤ l.length + 1
  | [] => by simp [insS]
  | a :: l => by
    unfold insS
    split
    · simp
    · split
      · simp
      · have := insS_len k l
        simp only [List.length_cons]
        omega
theorem foldr_len (zs : List Str) : (zs.foldr insS []).length ≤ zs.length := by
  induction zs with
  | nil => simp
  | cons z zs ih =>
    have := insS_len z (zs.foldr insS [])
    simp only [List.foldr_cons, List.length_cons]
    omega
theorem cr_sortTx (hc : X.calm = true) (hu : X.A.units + 200 < cLine) : CallR X (.builtin "sorted") (rSortTx X.prog X.w) := by
  intro pins s σ H vs us Q I r h
  obtain ⟨a, zs, rfl, ha, hl, q⟩ := h
  have R : SetG (PySem.strKind X.prog X.w) s.heap a (addAll zs) := (I.hok a _ ha).1
  have nd : (addAll zs).Nodup := by
    obtain ⟨_, _, _, _, _, _, _, _, _, _, _, nd, _⟩ := R
    exact nd
  rw [Vals.ref1 r]
  refine sorted_texts R (I.ok.hd hc) (by omega) fun z p out c kp g o hp ho hr => ?_
  obtain ⟨rs, rp, eo⟩ := hr
  rw [sort_is rs zs rp nd] at eo
  have hn : H p = none := I.hok.fresh hp
  have hz : ((zs.foldr insS []).map V.str).length ≤ sizeLine := by
    have := foldr_len zs
    rw [List.length_map, sizeLine_eq]
    omega
  have J : Inv X pins σ (upd H p (.lst ((zs.foldr insS []).map V.str))) { s with heap := z.heap, gens := z.gens, drawn := z.drawn, toks := z.toks } :=
    I.call (ch := []) (Un.laid kp hp hn) (I.hok.laid kp hp ⟨hz, out, c, each_vals eo, ho⟩) (by rw [g]; exact I.bare) (fun _ q => nomatch q)
  have e : z = { s with heap := z.heap, gens := z.gens, drawn := z.drawn, toks := z.toks } := by
    cases z
    cases s
    cases o
    rfl
  rw [e]
  exact ⟨.ref p, _, J, rfl, q p hn⟩
end
end SB
end

section
set_option maxHeartbeats 4000000
namespace SB
open PySem PySem.Spec PyProof.Rows L2

section
variable {F : Type} {nm : F → Str} {cs : List (Str × D)} {np : F → Nat} {C : F → List D → Sto → R D}

theorem se_dnew {X : Cx} {W : WX} {p : Pos} : SE C X W (.dnew : Ex F) (.Dict [] [] p) := ⟨_, pe_dnewK, fun {m S env σ H Q} q rs h p hp => by
  rw [evE] at h
  refine h _ (m ++ [p]) _ (Step.alloc hp) (q.allocO hp ⟨[], upd_same, .nil⟩) (.ref ?_)
  rw [← q.len, List.getElem?_append_right (Nat.le_refl _)]
  simp⟩
theorem sset_ok {r : List Str} (h : ∀ z ∈ r, PyData.strOk z = true) : ∀ z ∈ r.foldr insS [], PyData.strOk z = true := fun z q => h z ((fold_ins r).2 z |>.mp q)
theorem strs_rv {K : PySem.W.Frag} {m : List Addr} {H : Hp} : ∀ {r : List Str}, (∀ z ∈ r, PyData.strOk z = true) → RVs K m H (r.map SB.D.str) (r.map V.str)
  | [], _ => .nil
  | z :: r, h => .cons (.str (h z (List.mem_cons_self ..))) (strs_rv fun y q => h y (List.mem_cons_of_mem _ q))
theorem se_sset {X : Cx} {W : WX} {sc : Scope} (g : Good nm cs np C X W) (so : ScOk X sc) {y : Ex F} {e1 : Expr} {p p2 q2 z : Pos} (h1 : glB sc (Str.ofString "sorted") = true) (h2 : glB sc (Str.ofString "set") = true) (hp : plainX e1 = true) (hy : SE C X W y e1) :
    SE C X W (.sset y) (.Call (.Name (Str.ofString "sorted") p) [.Call (.Name (Str.ofString "set") p2) [e1] [] q2] [] z) := by
  obtain ⟨t, pt, ct⟩ := hy
  have sv : bootBuiltins (Str.ofString "sorted") = some (.builtin "sorted") := by decide +kernel
  have tv : bootBuiltins (Str.ofString "set") = some (.type "set") := by decide +kernel
  have pin : PE X (.Call (.Name (Str.ofString "set") p2) [e1] [] q2) _ := pe_callTy (cr_setTx g.calm) (so.gl _ h2) (bn_free g (by decide +kernel)) tv (pa_cons pt pa_nil (star_plain hp)) (by decide +kernel) (by decide +kernel) (star_plain hp) rfl
  refine ⟨_, pe_callB (cr_sortTx g.calm g.hu) (so.gl _ h1) (bn_free g (by decide +kernel)) sv (pa_cons pin pa_nil rfl) (by decide +kernel) (by decide +kernel) rfl rfl, fun {m S env σ H Q} q rs h => ?_⟩
  rw [evE] at h
  refine ct q rs (h.bind fun d S1 x m1 H1 s1 q1 r1 h1 => ?_)
  unfold ssetOp at h1
  split at h1
  · cases r1 with
    | ref ex =>
      split at h1
      · rename_i l e0
        obtain ⟨xs, ha, ra⟩ := q1.at_ ex e0
        obtain ⟨c, h1⟩ := when_post h1
        split at h1
        · rename_i r er
          have e := allStr_rv er ra
          obtain ⟨rfl, sk⟩ := e
          have hl : r.length ≤ 60 := by
            have := ra.length
            rw [List.length_map] at this
            have := of_decide_eq_true c
            omega
          refine ⟨_, r, rfl, .inl (.inl ha), hl, fun p0 hp0 => ?_⟩
          refine ⟨p0, r, rfl, upd_same, hl, fun p1 hp1 => ?_⟩
          have st1 : Step m1 H1 m1 (upd H1 p0 (SetTx X.prog X.w p0 (addAll r))) := Step.put hp0
          have qq := q1.put (o := SetTx X.prog X.w p0 (addAll r)) hp0
          refine h1 _ (m1 ++ [p1]) _ (st1.trans (Step.alloc hp1)) (qq.alloc hp1 (strs_rv (sset_ok sk))) (.ref ?_)
          rw [← q1.len, List.getElem?_append_right (Nat.le_refl _)]
          simp
        · exact h1.elim
      · exact h1.elim
  · exact h1.elim
theorem st_none {X : Cx} {W : WX} {x : Ex F} {e : Expr} (h : ∀ env S, evT C x env S = .err) : ST C X W x e :=
  ⟨fun _ _ _ => False, ⟨fun _ _ _ _ _ _ h => h.elim⟩, fun {m S env σ H Q} q rs h' => by rw [h] at h'; exact h'.elim⟩
theorem pe_lc' {X : Cx} {W : WX} {sc : Scope} (g : Good nm cs np C X W) (so : ScOk X sc) {tg : List Nat} {one : Bool} {x : Ex F} {it : SB.It F} {c : OEx F} {elt te iter : Expr} {ifs : List Expr} {scope : Scope} {p : Pos}
    (hb : blkC X.N sc scope (ownOf X.N tg) = true) (hi : SI C X W it iter) (L : LcOk C X scope tg one x c te elt ifs) : SE C X W (.lc tg one x it c) (.ListComp elt [⟨te, iter, ifs, 0⟩] scope p) := by
  obtain ⟨wi, gt, tt, t, pi, p1, p2, p3, fo, cov⟩ := se_lc (p := p) g so hb hi L
  exact ⟨_, pe_lc g.calm g.nd (pi te) (blk_of so hb) p1 p2 p3 fo, cov⟩
/-! readings that hang on the evaluation alone -/
def cE (K : PySem.W.Frag) (C : F → List D → Sto → R D) (W : WX) (x : Ex F) : TE := fun σ H Q => ∃ m S env, Sim K m H S ∧ RS K m H env σ ∧ Post K (RV K) m H (fun c d _ H' => W c d σ H') (evE C x env S) Q
def cC (K : PySem.W.Frag) (C : F → List D → Sto → R D) (W : WX) (x : OEx F) : TT := fun σ H Q => ∃ m S env, Sim K m H S ∧ RS K m H env σ ∧ Post K relB m H (fun c d _ H' => W c d σ H') (evC C x env S) Q
def cG (K : PySem.W.Frag) (tg : List Nat) (one : Bool) : TG := fun v σ H Q => ∃ m d env env', RV K m H d v ∧ RS K m H env σ ∧ bindT tg one d env = some env' ∧ ∀ σ', RS K m H env' σ' → σ'.length = σ.length → (∀ i : Nat, i ∉ tg → σ'[i]? = σ[i]?) → Q σ' H
theorem SE.can {X : Cx} {W : WX} {x : Ex F} {e : Expr} (h : SE C X W x e) : PE X e (cE X.K C W x) := by
  obtain ⟨t, pt, ct⟩ := h
  exact ⟨fun pins s σ H Q I ⟨m, S, env, q, rs, h⟩ => pt.run pins s σ H Q I (ct q rs h)⟩
/-- what a filter's test must be -/
def SC (C : F → List D → Sto → R D) (X : Cx) (W : WX) (c : OEx F) (ifs : List Expr) : Prop := ∃ tt, PTs X ifs tt ∧ ∀ {m : List Addr} {S : Sto} {env : Env} {σ : L2.St} {H : Hp} {Q : Bool → Hp → Prop}, Sim X.K m H S → RS X.K m H env σ → Post X.K relB m H (fun c d _ H' => W c d σ H') (evC C c env S) Q → tt σ H Q
theorem LcOk.of {X : Cx} {W : WX} {scope : Scope} (g : Good nm cs np C X W) {tg : List Nat} {one : Bool} {x : Ex F} {c : OEx F} {elt te : Expr} {ifs : List Expr} (ht : mtTg X.N scope tg one te = true)
    (hx : ∀ (X' : Cx) (W' : WX), Good nm cs np C X' W' → X'.N = X.N → ScOk X' scope → SE C X' W' x elt) (hc : ∀ (X' : Cx) (W' : WX), Good nm cs np C X' W' → X'.N = X.N → ScOk X' scope → SC C X' W' c ifs) : LcOk C X scope tg one x c te elt ifs := by
  refine ⟨cG X.K tg one, cC X.K C (fun _ _ _ _ => False) c, cE X.K C (fun _ _ _ _ => False) x, fun s H Cc cl fp => ?_, fun s H Cc cl fp => ?_, fun s H Cc cl fp => ?_, fun {m H d v env env' σ Q} r rs e h => ⟨m, d, env, env', r, rs, e, h⟩, fun {m S env σ H Q} q rs h => ⟨m, S, env, q, rs, h⟩, fun {m S env σ H Q} q rs h => ⟨m, S, env, q, rs, h⟩⟩
  · obtain ⟨gt, pg, cg⟩ := tg_pg (g.blk s H scope Cc cl fp) (ScOk.blk s H scope Cc cl fp) ht
    exact ⟨fun pins s' σ H v u Q I r ⟨m, d, env, env', rv, rs, e, h⟩ => pg.run pins s' σ H v u Q I r (cg rv rs e h)⟩
  · obtain ⟨tt, pt, ct⟩ := hc _ _ (g.blk s H scope Cc cl fp) rfl (ScOk.blk s H scope Cc cl fp)
    exact ⟨fun pins s σ H Q I ⟨m, S, env, q, rs, h⟩ => pt.run pins s σ H Q I (ct q rs h)⟩
  · exact (hx _ _ (g.blk s H scope Cc cl fp) rfl (ScOk.blk s H scope Cc cl fp)).can
theorem sc_none {X : Cx} {W : WX} : SC C X W .none [] := ⟨_, pts_nil, fun {m S env σ H Q} q rs h => by
  rw [evC] at h
  exact h _ _ _ Step.refl q rfl⟩
theorem sc_some {X : Cx} {W : WX} {t : Ex F} {e : Expr} (h : ST C X W t e) : SC C X W (.some t) [e] := by
  obtain ⟨tt, pt, ct⟩ := h
  exact ⟨_, pts_one pt, fun {m S env σ H Q} q rs h => by rw [evC] at h; exact ct q rs h⟩

/-! ### all expressions -/
mutual
theorem soundE : ∀ (x : Ex F) (e : Expr) (X : Cx) (W : WX) (sc : Scope), Good nm cs np C X W → ScOk X sc → mtE nm cs X.N sc x e = true → SE C X W x e
  | .non, e, X, W, sc, g, so, h => by
    obtain ⟨j, p, rfl⟩ := inv_non h
    exact se_const pe_non (fun _ _ => .non) fun _ _ => by rw [evE]
  | .bl b, e, X, W, sc, g, so, h => by
    obtain ⟨j, p, rfl⟩ := inv_bl h
    exact se_const pe_bl (fun _ _ => .bl b) fun _ _ => by rw [evE]
  | .int i, e, X, W, sc, g, so, h => by
    obtain ⟨j, p, rfl⟩ := inv_int h
    exact se_const pe_int (fun _ _ => .int i) fun _ _ => by rw [evE]
  | .str z, e, X, W, sc, g, so, h => by
    obtain ⟨⟨j, p, rfl⟩, hz⟩ := inv_str h
    exact se_const pe_str (fun _ _ => .str hz) fun _ _ => by rw [evE]
  | .var i, e, X, W, sc, g, so, h => by
    obtain ⟨x, p, rfl, h1, h2, h3⟩ := inv_var h
    exact se_var so h1 h2 h3
  | .con x d, e, X, W, sc, g, so, h => by
    obtain ⟨p, rfl, h1, h2, h3⟩ := inv_con h
    obtain ⟨v, u, e1, e2, e3⟩ := g.glob.con _ h3
    exact se_const (pe_glob (so.gl _ h1) e1 e2 (okN_of h2).1) e3 fun _ _ => by rw [evE]
  | .bin o a b, e, X, W, sc, g, so, h => by
    obtain ⟨ea, eb, p, rfl, h1, h2⟩ := inv_bin h
    have ha := soundE a ea X W sc g so h1
    have hb := soundE b eb X W sc g so h2
    cases o with
    | add => exact se_bin op_add' (fun q a b h => add_cov q a b h) ha hb
    | sub => exact se_bin op_sub (fun q a b h => sub_cov q a b h) ha hb
    | mul => exact se_bin op_mul' (fun q a b h => mul_cov q a b h) ha hb
    | fdiv => exact se_bin op_fdiv (fun q a b h => fdiv_cov q a b h) ha hb
    | mod => exact se_bin op_mod (fun q a b h => mod_cov q a b h) ha hb
    | pow => exact se_bin op_pow (fun q a b h => pow_cov q a b h) ha hb
  | .neg a, e, X, W, sc, g, so, h => by
    obtain ⟨ea, p, rfl, h1⟩ := inv_neg h
    exact se_neg (soundE a ea X W sc g so h1)
  | .cmp o a b, e, X, W, sc, g, so, h => by
    obtain ⟨ea, eb, p, rfl, hp, h1, h2⟩ := inv_cmp h
    exact se_cmp g hp (soundE a ea X W sc g so h1) (soundE b eb X W sc g so h2)
  | .cm2 o p a b c, e, X, W, sc, g, so, h => by
    obtain ⟨ea, eb, ec, z, rfl, hp, h1, h2, h3⟩ := inv_cm2 h
    exact se_cm2 g hp (soundE a ea X W sc g so h1) (soundE b eb X W sc g so h2) (soundE c ec X W sc g so h3)
  | .cm3 o p q a b c d, e, X, W, sc, g, so, h => by
    obtain ⟨ea, eb, ec, ed, z, rfl, hp, h1, h2, h3, h4⟩ := inv_cm3 h
    exact se_cm3 g hp (soundE a ea X W sc g so h1) (soundE b eb X W sc g so h2) (soundE c ec X W sc g so h3) (soundE d ed X W sc g so h4)
  | .and a b, e, X, W, sc, g, so, h => by
    obtain ⟨e1, e2, r, p, rfl, h1, h2⟩ := inv_and h
    refine se_and (soundE a e1 X W sc g so h1) ?_
    rcases h2 with ⟨rfl, h2⟩ | h2
    · exact se_one (soundE b e2 X W sc g so h2)
    · exact soundE b _ X W sc g so h2
  | .or a b, e, X, W, sc, g, so, h => by
    obtain ⟨e1, e2, r, p, rfl, h1, h2⟩ := inv_or h
    refine se_or (soundE a e1 X W sc g so h1) ?_
    rcases h2 with ⟨rfl, h2⟩ | h2
    · exact se_one (soundE b e2 X W sc g so h2)
    · exact soundE b _ X W sc g so h2
  | .not a, e, X, W, sc, g, so, h => by
    obtain ⟨ea, p, rfl, h1⟩ := inv_not h
    exact se_not (soundE a ea X W sc g so h1)
  | .ite c a b, e, X, W, sc, g, so, h => by
    obtain ⟨ec, ea, eb, p, rfl, h0, h1, h2⟩ := inv_ite h
    exact se_ite (soundT c ec X W sc g so h0) (soundE a ea X W sc g so h1) (soundE b eb X W sc g so h2)
  | .tup xs, e, X, W, sc, g, so, h => by
    obtain ⟨es, k, p, rfl, h1⟩ := inv_tup h
    exact se_tup (soundEs xs es X W sc g so h1)
  | .lst xs, e, X, W, sc, g, so, h => by
    obtain ⟨es, p, rfl, h1⟩ := inv_lst h
    exact se_lst (soundEs xs es X W sc g so h1)
  | .idx a i, e, X, W, sc, g, so, h => by
    obtain ⟨ea, ei, p, rfl, hp, h1, h2⟩ := inv_idx h
    exact se_idx g hp (soundE a ea X W sc g so h1) (soundE i ei X W sc g so h2)
  | .slc a lo hi, e, X, W, sc, g, so, h => by
    obtain ⟨ea, l, u, p2, p, rfl, h1, h2, h3⟩ := inv_slc h
    exact se_slc (soundE a ea X W sc g so h1) (soundO lo l X W sc g so h2) (soundO hi u X W sc g so h3)
  | .call f xs, e, X, W, sc, g, so, h => by
    obtain ⟨e1, es, p, z, rfl, h1, h2, h3⟩ := inv_call h
    exact se_call g so h1 h2 (plain_all h3) (soundEs xs _ X W sc g so h3)
  | .blt f xs, e, X, W, sc, g, so, h => by
    obtain ⟨e1, es, p, z, rfl, h1, h2, h3⟩ := inv_blt h
    exact se_blt g so h1 h2 (plain_all h3) (soundEs xs _ X W sc g so h3)
  | .met mt o y, e, X, W, sc, g, so, h => by
    obtain ⟨eo, ap, e1, z, rfl, h1, h2, h3, h4, h5⟩ := inv_met h
    cases mt with
    | append => exact se_append h1 h2 h3 (soundE o eo X W sc g so h4) (soundE y e1 X W sc g so h5)
    | join => exact se_join h1 h2 h3 (soundE o eo X W sc g so h4) (soundE y e1 X W sc g so h5)
  | .dnew, e, X, W, sc, g, so, h => by
    obtain ⟨p, rfl⟩ := inv_dnew h
    exact se_dnew
  | .sset y, e, X, W, sc, g, so, h => by
    obtain ⟨p, e1, p2, q2, z, rfl, h1, h2, h3, h4⟩ := inv_sset h
    exact se_sset g so h1 h2 h3 (soundE y e1 X W sc g so h4)
  | .isi a t, e, X, W, sc, g, so, h => by
    obtain ⟨p, e1, p2, z, rfl, h1, h2, h3, h4⟩ := inv_isi h
    exact se_isi g so h1 h2 h3 (soundE a e1 X W sc g so h4)
  | .lc tg one x it c, e, X, W, sc, g, so, h => by
    obtain ⟨elt, te, iter, ifs, scope, p, rfl, h1, h2, h3, h4, h5⟩ := inv_lc h
    refine pe_lc' g so h1 (soundI it iter X W sc g so h3) (LcOk.of g h2 (fun X' W' g' hN so' => soundE x elt X' W' scope g' so' (by rw [hN]; exact h4)) fun X' W' g' hN so' => ?_)
    rcases h5 with ⟨rfl, rfl⟩ | ⟨t, e1, rfl, rfl, h5⟩
    · exact sc_none
    · exact sc_some (soundT t e1 X' W' scope g' so' (by rw [hN]; exact h5))
theorem soundT : ∀ (x : Ex F) (e : Expr) (X : Cx) (W : WX) (sc : Scope), Good nm cs np C X W → ScOk X sc → mtE nm cs X.N sc x e = true → ST C X W x e
  | .and a b, e, X, W, sc, g, so, h => by
    obtain ⟨e1, e2, r, p, rfl, h1, h2⟩ := inv_and h
    refine SW.st (sw_and (soundT a e1 X W sc g so h1) ?_)
    rcases h2 with ⟨rfl, h2⟩ | h2
    · exact st_one_and (soundT b e2 X W sc g so h2)
    · exact soundW b _ X W sc g so h2 (by exact ⟨_, _, _, rfl⟩)
  | .or a b, e, X, W, sc, g, so, h => by
    obtain ⟨e1, e2, r, p, rfl, h1, h2⟩ := inv_or h
    refine SW.st (sw_or (soundT a e1 X W sc g so h1) ?_)
    rcases h2 with ⟨rfl, h2⟩ | h2
    · exact st_one_or (soundT b e2 X W sc g so h2)
    · exact soundW b _ X W sc g so h2 (by exact ⟨_, _, _, rfl⟩)
  | .not a, e, X, W, sc, g, so, h => by
    obtain ⟨ea, p, rfl, h1⟩ := inv_not h
    exact st_not (soundT a ea X W sc g so h1)
  | .cmp o a b, e, X, W, sc, g, so, h => by
    obtain ⟨ea, eb, p, rfl, hp, h1, h2⟩ := inv_cmp h
    exact st_cmp g hp (soundE a ea X W sc g so h1) (soundE b eb X W sc g so h2)
  | .cm2 o p a b c, e, X, W, sc, g, so, h => by
    obtain ⟨ea, eb, ec, z, rfl, hp, h1, h2, h3⟩ := inv_cm2 h
    exact st_cm2 g hp (soundE a ea X W sc g so h1) (soundE b eb X W sc g so h2) (soundE c ec X W sc g so h3)
  | .isi a t, e, X, W, sc, g, so, h => by
    obtain ⟨p, e1, p2, z, rfl, h1, h2, h3, h4⟩ := inv_isi h
    exact st_isi (se_isi g so h1 h2 h3 (soundE a e1 X W sc g so h4))
  | .call f xs, e, X, W, sc, g, so, h => by
    obtain ⟨e1, es, p, z, rfl, h1, h2, h3⟩ := inv_call h
    exact st_val (fun _ => rfl) (fun env S => by rw [evT, evE, R.assoc]) (se_call g so h1 h2 (plain_all h3) (soundEs xs _ X W sc g so h3))
  | .var i, e, X, W, sc, g, so, h => by
    obtain ⟨x, p, rfl, h1, h2, h3⟩ := inv_var h
    exact st_val (fun _ => rfl) (fun env S => by rw [evT, evE]; split <;> rfl) (se_var so h1 h2 h3)
  | .idx a i, e, X, W, sc, g, so, h => by
    obtain ⟨ea, ei, p, rfl, hp, h1, h2⟩ := inv_idx h
    exact st_val (fun _ => rfl) (fun env S => by rw [evT, evE, R.assoc]; exact R.cgr fun x s => (R.assoc ..).symm) (se_idx g hp (soundE a ea X W sc g so h1) (soundE i ei X W sc g so h2))
  | .non, e, X, W, sc, g, so, h => st_none fun _ _ => by simp [evT]
  | .bl _, e, X, W, sc, g, so, h => st_none fun _ _ => by simp [evT]
  | .int _, e, X, W, sc, g, so, h => st_none fun _ _ => by simp [evT]
  | .str _, e, X, W, sc, g, so, h => st_none fun _ _ => by simp [evT]
  | .con _ _, e, X, W, sc, g, so, h => st_none fun _ _ => by simp [evT]
  | .bin _ _ _, e, X, W, sc, g, so, h => st_none fun _ _ => by simp [evT]
  | .neg _, e, X, W, sc, g, so, h => st_none fun _ _ => by simp [evT]
  | .cm3 _ _ _ _ _ _ _, e, X, W, sc, g, so, h => st_none fun _ _ => by simp [evT]
  | .ite _ _ _, e, X, W, sc, g, so, h => st_none fun _ _ => by simp [evT]
  | .tup _, e, X, W, sc, g, so, h => st_none fun _ _ => by simp [evT]
  | .lst _, e, X, W, sc, g, so, h => st_none fun _ _ => by simp [evT]
  | .slc _ _ _, e, X, W, sc, g, so, h => st_none fun _ _ => by simp [evT]
  | .blt _ _, e, X, W, sc, g, so, h => st_none fun _ _ => by simp [evT]
  | .met _ _ _, e, X, W, sc, g, so, h => st_none fun _ _ => by simp [evT]
  | .dnew, e, X, W, sc, g, so, h => st_none fun _ _ => by simp [evT]
  | .sset _, e, X, W, sc, g, so, h => st_none fun _ _ => by simp [evT]
  | .lc _ _ _ _ _, e, X, W, sc, g, so, h => st_none fun _ _ => by simp [evT]
/-- the rest of an and, of an or -/
theorem soundW : ∀ (x : Ex F) (e : Expr) (X : Cx) (W : WX) (sc : Scope), Good nm cs np C X W → ScOk X sc → mtE nm cs X.N sc x e = true → (∃ o es p, e = .BoolOp o es p) → SW C X W x e
  | .and a b, e, X, W, sc, g, so, h, _ => by
    obtain ⟨e1, e2, r, p, rfl, h1, h2⟩ := inv_and h
    refine sw_and (soundT a e1 X W sc g so h1) ?_
    rcases h2 with ⟨rfl, h2⟩ | h2
    · exact st_one_and (soundT b e2 X W sc g so h2)
    · exact soundW b _ X W sc g so h2 (by exact ⟨_, _, _, rfl⟩)
  | .or a b, e, X, W, sc, g, so, h, _ => by
    obtain ⟨e1, e2, r, p, rfl, h1, h2⟩ := inv_or h
    refine sw_or (soundT a e1 X W sc g so h1) ?_
    rcases h2 with ⟨rfl, h2⟩ | h2
    · exact st_one_or (soundT b e2 X W sc g so h2)
    · exact soundW b _ X W sc g so h2 (by exact ⟨_, _, _, rfl⟩)
  | .not a, e, X, W, sc, g, so, h, b => by obtain ⟨_, _, _, rfl⟩ := b; simp [mtE] at h
  | .cmp o a b, e, X, W, sc, g, so, h, b' => by obtain ⟨_, _, _, rfl⟩ := b'; simp [mtE] at h
  | .cm2 _ _ _ _ _, e, X, W, sc, g, so, h, b => by obtain ⟨_, _, _, rfl⟩ := b; simp [mtE] at h
  | .isi _ _, e, X, W, sc, g, so, h, b => by obtain ⟨_, _, _, rfl⟩ := b; simp [mtE] at h
  | .call _ _, e, X, W, sc, g, so, h, b => by obtain ⟨_, _, _, rfl⟩ := b; simp [mtE] at h
  | .var _, e, X, W, sc, g, so, h, b => by obtain ⟨_, _, _, rfl⟩ := b; simp [mtE] at h
  | .idx _ _, e, X, W, sc, g, so, h, b => by obtain ⟨_, _, _, rfl⟩ := b; simp [mtE] at h
  | .non, e, X, W, sc, g, so, h, b => by obtain ⟨_, _, _, rfl⟩ := b; simp [mtE] at h
  | .bl _, e, X, W, sc, g, so, h, b => by obtain ⟨_, _, _, rfl⟩ := b; simp [mtE] at h
  | .int _, e, X, W, sc, g, so, h, b => by obtain ⟨_, _, _, rfl⟩ := b; simp [mtE] at h
  | .str _, e, X, W, sc, g, so, h, b => by obtain ⟨_, _, _, rfl⟩ := b; simp [mtE] at h
  | .con _ _, e, X, W, sc, g, so, h, b => by obtain ⟨_, _, _, rfl⟩ := b; simp [mtE] at h
  | .bin _ _ _, e, X, W, sc, g, so, h, b => by obtain ⟨_, _, _, rfl⟩ := b; simp [mtE] at h
  | .neg _, e, X, W, sc, g, so, h, b => by obtain ⟨_, _, _, rfl⟩ := b; simp [mtE] at h
  | .cm3 _ _ _ _ _ _ _, e, X, W, sc, g, so, h, b => by obtain ⟨_, _, _, rfl⟩ := b; simp [mtE] at h
  | .ite _ _ _, e, X, W, sc, g, so, h, b => by obtain ⟨_, _, _, rfl⟩ := b; simp [mtE] at h
  | .tup _, e, X, W, sc, g, so, h, b => by obtain ⟨_, _, _, rfl⟩ := b; simp [mtE] at h
  | .lst _, e, X, W, sc, g, so, h, b => by obtain ⟨_, _, _, rfl⟩ := b; simp [mtE] at h
  | .slc _ _ _, e, X, W, sc, g, so, h, b => by obtain ⟨_, _, _, rfl⟩ := b; simp [mtE] at h
  | .blt _ _, e, X, W, sc, g, so, h, b => by obtain ⟨_, _, _, rfl⟩ := b; simp [mtE] at h
  | .met _ _ _, e, X, W, sc, g, so, h, b => by obtain ⟨_, _, _, rfl⟩ := b; simp [mtE] at h
  | .dnew, e, X, W, sc, g, so, h, b => by obtain ⟨_, _, _, rfl⟩ := b; simp [mtE] at h
  | .sset _, e, X, W, sc, g, so, h, b => by obtain ⟨_, _, _, rfl⟩ := b; simp [mtE] at h
  | .lc _ _ _ _ _, e, X, W, sc, g, so, h, b => by obtain ⟨_, _, _, rfl⟩ := b; simp [mtE] at h
theorem soundEs : ∀ (x : Exs F) (e : List Expr) (X : Cx) (W : WX) (sc : Scope), Good nm cs np C X W → ScOk X sc → mtEs nm cs X.N sc x e = true → SA C X W x e
  | .nil, [], X, W, sc, g, so, h => sa_nil
  | .nil, _ :: _, X, W, sc, g, so, h => by simp [mtEs] at h
  | .cons x xs, [], X, W, sc, g, so, h => by simp [mtEs] at h
  | .cons x xs, e :: es, X, W, sc, g, so, h => by
    simp only [mtEs, Bool.and_eq_true] at h
    exact sa_cons h.1 (soundE x e X W sc g so h.2.1) (soundEs xs es X W sc g so h.2.2)
theorem soundO : ∀ (x : OEx F) (e : Option Expr) (X : Cx) (W : WX) (sc : Scope), Good nm cs np C X W → ScOk X sc → mtO nm cs X.N sc x e = true → SO C X W x e
  | .none, none, X, W, sc, g, so, h => so_none
  | .none, some _, X, W, sc, g, so, h => by simp [mtO] at h
  | .some x, none, X, W, sc, g, so, h => by simp [mtO] at h
  | .some x, some e, X, W, sc, g, so, h => by
    rw [mtO] at h
    exact so_some (soundE x e X W sc g so h)
theorem soundI : ∀ (x : SB.It F) (e : Expr) (X : Cx) (W : WX) (sc : Scope), Good nm cs np C X W → ScOk X sc → mtI nm cs X.N sc x e = true → SI C X W x e
  | .ex x, e, X, W, sc, g, so, h => by
    rw [mtI, Bool.and_eq_true] at h
    exact si_ex h.1 (soundE x e X W sc g so h.2)
  | .rng1 a, e, X, W, sc, g, so, h => by
    cases e with
    | Call f es ks z =>
      cases f with
      | Name x p =>
        rcases es with _ | ⟨e1, _ | ⟨e2, r⟩⟩
        · simp [mtI] at h
        · cases ks with
          | nil =>
            simp only [mtI, Bool.and_eq_true, decide_eq_true_eq] at h
            obtain ⟨rfl, h1, h2, h3⟩ := h
            exact si_rng1 g so h1 h2 (soundE a e1 X W sc g so h3)
          | cons _ _ => simp [mtI] at h
        · simp [mtI] at h
      | _ => simp [mtI] at h
    | _ => simp [mtI] at h
  | .rng2 a b, e, X, W, sc, g, so, h => by
    cases e with
    | Call f es ks z =>
      cases f with
      | Name x p =>
        rcases es with _ | ⟨e1, _ | ⟨e2, _ | ⟨e3, r⟩⟩⟩
        · simp [mtI] at h
        · simp [mtI] at h
        · cases ks with
          | nil =>
            simp only [mtI, Bool.and_eq_true, decide_eq_true_eq] at h
            obtain ⟨rfl, h1, h2, h3, h4, h5⟩ := h
            exact si_rng2 g so h1 h2 h3 (soundE a e1 X W sc g so h4) (soundE b e2 X W sc g so h5)
          | cons _ _ => simp [mtI] at h
        · simp [mtI] at h
      | _ => simp [mtI] at h
    | _ => simp [mtI] at h
end
end
end SB
end

section
set_option maxHeartbeats 4000000
namespace SB
open PySem PySem.Spec PyProof.Rows L2

/-! ### the text of statements -/
def notTup : Expr → Bool
  | .Tuple .. => false
  | _ => true
section
variable {F : Type} (nm : F → Str) (cs : List (Str × D)) (N : List Str)
/-- a comprehension that is given to a local name on its own line -/
def swB (sc : Scope) (x : Str) (p : Pos) : Expr → Bool
  | .ListComp _ _ scope q => decide (sc.names.lookup x = some .local) && (p.line == q.line && !(scope.names.any fun (n, k) => n == x && (k == .local || k == .cell)))
  | _ => false
mutual
def mtS (sc : Scope) : Sx F → Stmt → Bool
  | .set i e, .Assign [.Name x p] v _ => decide (N[i]? = some x) && (locB sc x && ((noComp v || swB sc x p v) && mtE nm cs N sc e v))
  | .setT ts e, .Assign [.Tuple es k p] v _ => noComp v && (notTup v && (mtTg N sc ts false (.Tuple es k p) && mtE nm cs N sc e v))
  | .setI o i e, .Assign [.Subscript eo ei _] v _ => noComp v && (plainX ei && (mtE nm cs N sc o eo && (mtE nm cs N sc i ei && mtE nm cs N sc e v)))
  | .aug i e, .AugAssign (.Name x _) .Add v _ => decide (N[i]? = some x) && (locB sc x && mtE nm cs N sc e v)
  | .expr e, .Expr v _ => noComp v && mtE nm cs N sc e v
  | .ret e, .Return (some v) _ => mtE nm cs N sc e v
  | .retN, .Return none _ => true
  | .iff c a b, .If ec ea eb _ => mtE nm cs N sc c ec && (mtSs sc a ea && mtSs sc b eb)
  | .for_ tg one it b, .For te ei eb [] _ => mtTg N sc tg one te && (mtI nm cs N sc it ei && mtSs sc b eb)
  | .forK i v b, .For (.Name x _) (.Name y _) eb [] _ => decide (N[i]? = some x) && (locB sc x && (mtE (F := F) nm cs N sc (.var v) (.Name y ⟨0, 0, 0, 0⟩) && mtSs sc b eb))
  | .whl c b, .While ec eb [] _ => mtE nm cs N sc c ec && mtSs sc b eb
  | .brk, .Break _ => true
  | .cnt, .Continue _ => true
  | .pas, .Pass _ => true
  | _, _ => false
def mtSs (sc : Scope) : Sxs F → List Stmt → Bool
  | .nil, [] => true
  | .cons a r, s :: l => mtS sc a s && mtSs sc r l
  | _, _ => false
end
end

section
variable {F : Type} {nm : F → Str} {cs : List (Str × D)} {N : List Str} {sc : Scope}
theorem is_set {i : Nat} {e : Ex F} {s : Stmt} (h : mtS nm cs N sc (.set i e) s = true) : ∃ x p v z, s = .Assign [.Name x p] v z ∧ N[i]? = some x ∧ locB sc x = true ∧ (noComp v || swB sc x p v) = true ∧ mtE nm cs N sc e v = true := by
  cases s with
  | Assign ts v z =>
    rcases ts with _ | ⟨t, _ | ⟨t2, r⟩⟩
    · exact Bool.noConfusion (show false = true from h)
    · cases t with
      | Name x p =>
        simp only [mtS, Bool.and_eq_true, decide_eq_true_eq] at h
        exact ⟨x, p, v, z, rfl, h.1, h.2.1, h.2.2.1, h.2.2.2⟩
      | _ => exact Bool.noConfusion (show false = true from h)
    · cases t <;> exact Bool.noConfusion (show false = true from h)
  | _ => exact Bool.noConfusion (show false = true from h)
theorem is_setT {is : List Nat} {e : Ex F} {s : Stmt} (h : mtS nm cs N sc (.setT is e) s = true) : ∃ es k p v z, s = .Assign [.Tuple es k p] v z ∧ noComp v = true ∧ notTup v = true ∧ mtTg N sc is false (.Tuple es k p) = true ∧ mtE nm cs N sc e v = true := by
  cases s with
  | Assign ts v z =>
    rcases ts with _ | ⟨t, _ | ⟨t2, r⟩⟩
    · exact Bool.noConfusion (show false = true from h)
    · cases t with
      | Tuple es k p =>
        simp only [mtS, Bool.and_eq_true] at h
        exact ⟨es, k, p, v, z, rfl, h.1, h.2.1, h.2.2.1, h.2.2.2⟩
      | _ => exact Bool.noConfusion (show false = true from h)
    · cases t <;> exact Bool.noConfusion (show false = true from h)
  | _ => exact Bool.noConfusion (show false = true from h)
theorem is_setI {o i e : Ex F} {s : Stmt} (h : mtS nm cs N sc (.setI o i e) s = true) : ∃ eo ei p v z, s = .Assign [.Subscript eo ei p] v z ∧ noComp v = true ∧ plainX ei = true ∧ mtE nm cs N sc o eo = true ∧ mtE nm cs N sc i ei = true ∧ mtE nm cs N sc e v = true := by
  cases s with
  | Assign ts v z =>
    rcases ts with _ | ⟨t, _ | ⟨t2, r⟩⟩
    · exact Bool.noConfusion (show false = true from h)
    · cases t with
      | Subscript eo ei p =>
        simp only [mtS, Bool.and_eq_true] at h
        exact ⟨eo, ei, p, v, z, rfl, h.1, h.2.1, h.2.2.1, h.2.2.2.1, h.2.2.2.2⟩
      | _ => exact Bool.noConfusion (show false = true from h)
    · cases t <;> exact Bool.noConfusion (show false = true from h)
  | _ => exact Bool.noConfusion (show false = true from h)
theorem is_aug {i : Nat} {e : Ex F} {s : Stmt} (h : mtS nm cs N sc (.aug i e) s = true) : ∃ x p v z, s = .AugAssign (.Name x p) .Add v z ∧ N[i]? = some x ∧ locB sc x = true ∧ mtE nm cs N sc e v = true := by
  cases s with
  | AugAssign t op v z =>
    cases t with
    | Name x p =>
      cases op <;> simp [mtS] at h
      exact ⟨x, p, v, z, rfl, h.1, h.2.1, h.2.2⟩
    | _ => exact Bool.noConfusion (show false = true from h)
  | _ => exact Bool.noConfusion (show false = true from h)
theorem is_expr {e : Ex F} {s : Stmt} (h : mtS nm cs N sc (.expr e) s = true) : ∃ v z, s = .Expr v z ∧ noComp v = true ∧ mtE nm cs N sc e v = true := by
  cases s with
  | Expr v z =>
    simp only [mtS, Bool.and_eq_true] at h
    exact ⟨v, z, rfl, h.1, h.2⟩
  | _ => exact Bool.noConfusion (show false = true from h)
theorem is_ret {e : Ex F} {s : Stmt} (h : mtS nm cs N sc (.ret e) s = true) : ∃ v z, s = .Return (some v) z ∧ mtE nm cs N sc e v = true := by
  cases s with
  | Return v z =>
    cases v with
    | none => simp [mtS] at h
    | some v => rw [mtS] at h; exact ⟨v, z, rfl, h⟩
  | _ => exact Bool.noConfusion (show false = true from h)
theorem is_retN {s : Stmt} (h : mtS (F := F) nm cs N sc .retN s = true) : ∃ z, s = .Return none z := by
  cases s with
  | Return v z =>
    cases v with
    | none => exact ⟨z, rfl⟩
    | some v => simp [mtS] at h
  | _ => exact Bool.noConfusion (show false = true from h)
theorem is_iff {c : Ex F} {a b : Sxs F} {s : Stmt} (h : mtS nm cs N sc (.iff c a b) s = true) : ∃ ec ea eb z, s = .If ec ea eb z ∧ mtE nm cs N sc c ec = true ∧ mtSs nm cs N sc a ea = true ∧ mtSs nm cs N sc b eb = true := by
  cases s with
  | If ec ea eb z =>
    simp only [mtS, Bool.and_eq_true] at h
    exact ⟨ec, ea, eb, z, rfl, h.1, h.2.1, h.2.2⟩
  | _ => exact Bool.noConfusion (show false = true from h)
theorem is_for {tg : List Nat} {one : Bool} {it : SB.It F} {b : Sxs F} {s : Stmt} (h : mtS nm cs N sc (.for_ tg one it b) s = true) : ∃ te ei eb z, s = .For te ei eb [] z ∧ mtTg N sc tg one te = true ∧ mtI nm cs N sc it ei = true ∧ mtSs nm cs N sc b eb = true := by
  cases s with
  | For te ei eb el z =>
    cases el with
    | nil =>
      simp only [mtS, Bool.and_eq_true] at h
      exact ⟨te, ei, eb, z, rfl, h.1, h.2.1, h.2.2⟩
    | cons _ _ => simp [mtS] at h
  | _ => exact Bool.noConfusion (show false = true from h)
theorem is_forK {i v : Nat} {b : Sxs F} {s : Stmt} (h : mtS nm cs N sc (.forK i v b) s = true) : ∃ x px y py eb z, s = .For (.Name x px) (.Name y py) eb [] z ∧ N[i]? = some x ∧ locB sc x = true ∧ N[v]? = some y ∧ visB sc y = true ∧ okN y = true ∧ mtSs nm cs N sc b eb = true := by
  cases s with
  | For te ei eb el z =>
    cases el with
    | nil =>
      cases te with
      | Name x px =>
        cases ei with
        | Name y py =>
          simp only [mtS, Bool.and_eq_true, decide_eq_true_eq] at h
          obtain ⟨x', p', e, h1, h2, h3⟩ := inv_var h.2.2.1
          cases e
          exact ⟨x, px, y, py, eb, z, rfl, h.1, h.2.1, h1, h2, h3, h.2.2.2⟩
        | _ => exact Bool.noConfusion (show false = true from h)
      | _ => exact Bool.noConfusion (show false = true from h)
    | cons _ _ => cases te <;> first | exact Bool.noConfusion (show false = true from h) | (cases ei <;> exact Bool.noConfusion (show false = true from h))
  | _ => exact Bool.noConfusion (show false = true from h)
theorem is_whl {c : Ex F} {b : Sxs F} {s : Stmt} (h : mtS nm cs N sc (.whl c b) s = true) : ∃ ec eb z, s = .While ec eb [] z ∧ mtE nm cs N sc c ec = true ∧ mtSs nm cs N sc b eb = true := by
  cases s with
  | While ec eb el z =>
    cases el with
    | nil =>
      simp only [mtS, Bool.and_eq_true] at h
      exact ⟨ec, eb, z, rfl, h.1, h.2⟩
    | cons _ _ => simp [mtS] at h
  | _ => exact Bool.noConfusion (show false = true from h)
theorem is_brk {s : Stmt} (h : mtS (F := F) nm cs N sc .brk s = true) : ∃ z, s = .Break z := by
  cases s with
  | Break z => exact ⟨z, rfl⟩
  | _ => exact Bool.noConfusion (show false = true from h)
theorem is_cnt {s : Stmt} (h : mtS (F := F) nm cs N sc .cnt s = true) : ∃ z, s = .Continue z := by
  cases s with
  | Continue z => exact ⟨z, rfl⟩
  | _ => exact Bool.noConfusion (show false = true from h)
theorem is_pas {s : Stmt} (h : mtS (F := F) nm cs N sc .pas s = true) : ∃ z, s = .Pass z := by
  cases s with
  | Pass z => exact ⟨z, rfl⟩
  | _ => exact Bool.noConfusion (show false = true from h)
theorem iss_nil {l : List Stmt} (h : mtSs (F := F) nm cs N sc .nil l = true) : l = [] := by
  cases l with
  | nil => rfl
  | cons a b => simp [mtSs] at h
theorem iss_cons {a : Sx F} {r : Sxs F} {l : List Stmt} (h : mtSs nm cs N sc (.cons a r) l = true) : ∃ s l', l = s :: l' ∧ mtS nm cs N sc a s = true ∧ mtSs nm cs N sc r l' = true := by
  cases l with
  | nil => simp [mtSs] at h
  | cons s l =>
    rw [mtSs, Bool.and_eq_true] at h
    exact ⟨s, l, rfl, h.1, h.2⟩
end
/-! ### what a statement's evaluation tells -/
def PostS (K : PySem.W.Frag) (m : List Addr) (H : Hp) (W : WX) (r : R Fl) (De : Ends) : Prop := match r with
  | .ok f S' => ∀ m' H' σ', Step m H m' H' → Sim K m' H' S' → match f with
    | .nx env => RS K m' H' env σ' → De.nx σ' H'
    | .bk env => RS K m' H' env σ' → De.bk σ' H'
    | .ct env => RS K m' H' env σ' → De.ct σ' H'
    | .ret d => ∀ v, RV K m' H' d v → De.rt v H'
  | .exc c fs S' => ∀ cls dx m' H' σ', Step m H m' H' → Sim K m' H' S' → XR K m' H' c fs cls dx → W cls dx σ' H'
  | .err => False
section
variable {α β : Type} {K : PySem.W.Frag} {rel : List Addr → Hp → α → β → Prop} {m m1 : List Addr} {H H1 : Hp} {W : WX} {De : Ends}
theorem PostS.from (st : Step m H m1 H1) {r : R Fl} (h : PostS K m H W r De) : PostS K m1 H1 W r De := by
  cases r with
  | ok f S' => exact fun m' H' σ' s q => h m' H' σ' (st.trans s) q
  | exc c fs S' => exact fun cls dx m' H' σ' s q r => h cls dx m' H' σ' (st.trans s) q r
  | err => exact h
theorem PostS.bind {σ : L2.St} {r : R α} {f : α → Sto → R Fl} {Q : β → Hp → Prop} (h : PostS K m H W (r.bind f) De)
    (g : ∀ d S1 x m1 H1, Step m H m1 H1 → Sim K m1 H1 S1 → rel m1 H1 d x → PostS K m1 H1 W (f d S1) De → Q x H1) : Post K rel m H (fun c d _ H' => W c d σ H') r Q := by
  cases r with
  | ok d S' => exact fun v m' H' s q r => g d S' v m' H' s q r (PostS.from s h)
  | exc c fs S' => exact fun cls dx m' H' s q r => h cls dx m' H' σ s q r
  | err => exact h
end
section
variable {F : Type} (C : F → List D → Sto → R D) (X : Cx) (W : WX)
def SS (x : Sx F) (st : Stmt) : Prop := ∃ t, PS X st t ∧ ∀ {m : List Addr} {S : Sto} {env : Env} {σ : L2.St} {H : Hp} {De : Ends}, Sim X.K m H S → RS X.K m H env σ → PostS X.K m H W (evS C x env S) De → t De σ H
def SSs (x : Sxs F) (st : List Stmt) : Prop := ∃ t, PSs X st t ∧ ∀ {m : List Addr} {S : Sto} {env : Env} {σ : L2.St} {H : Hp} {De : Ends}, Sim X.K m H S → RS X.K m H env σ → PostS X.K m H W (evSs C x env S) De → t De σ H
end
/-- a def's own block -/
structure GoodS {F : Type} (nm : F → Str) (cs : List (Str × D)) (np : F → Nat) (C : F → List D → Sto → R D) (X : Cx) (W : WX) : Prop extends Good nm cs np C X W where
  fna : ∀ x, X.fn x = true
  kind : X.env.scope.kind = .function
  pass : PassesOwn (model X.prog X.w) X.A X.env X.xe
section
variable {F : Type} {nm : F → Str} {cs : List (Str × D)} {np : F → Nat} {C : F → List D → Sto → R D} {X : Cx} {W : WX}
theorem sw_of {e : Expr} (h : noComp e = true) (t : Option Expr) (l : Nat) : swapsWith e t l X.env = pure false := by
  cases e <;> first | rfl | cases h
theorem sws_of {e : Expr} (h : noComp e = true) (t : Expr) (l : Nat) : swapsWithSole [t] e l X.env = pure false := by
  show swapsWith e (some t) l X.env = pure false
  exact sw_of h _ _
theorem ss_of {x : Sx F} {st : Stmt} {t : TS} (p : PS X st t) (c : ∀ {m : List Addr} {S : Sto} {env : Env} {σ : L2.St} {H : Hp} {De : Ends}, Sim X.K m H S → RS X.K m H env σ → PostS X.K m H W (evS C x env S) De → t De σ H) : SS C X W x st := ⟨t, p, c⟩
theorem ss_set (g : GoodS nm cs np C X W) {i : Nat} {e : Ex F} {x : Str} {p z : Pos} {v : Expr} (hN : X.N[i]? = some x) (hl : locB X.env.scope x = true) (hc : (noComp v || swB X.env.scope x p v) = true) (hm : mtE nm cs X.N X.env.scope e v = true) : SS C X W (.set i e) (.Assign [.Name x p] v z) := by
  have so := ScOk.self g.fna
  have lx := so.loc x hl
  rw [Bool.or_eq_true] at hc
  rcases hc with hc | hc
  · obtain ⟨t, pt, ct⟩ := soundE e v X W _ g.toGood so hm
    refine ⟨_, ps_set (i := i) g.nd hN lx.1 pt (sw_of hc _ _) lx.2, fun {m S env σ H De} q rs h => ?_⟩
    rw [evS] at h
    exact ct q rs (h.bind fun d S1 x m1 H1 s1 q1 r1 h1 => h1 m1 H1 _ Step.refl q1 ((rs.mono s1 q).set r1 i))
  · cases v with
    | ListComp elt gens scope q =>
      cases e with
      | lc tg one y it c =>
        obtain ⟨elt', te, iter, ifs, scope', q', he, h1, h2, h3, h4, h5⟩ := inv_lc hm
        cases he
        simp only [swB, Bool.and_eq_true, decide_eq_true_eq, Bool.not_eq_true'] at hc
        obtain ⟨c1, c2, c3⟩ := hc
        have L : LcOk C X scope tg one y c te elt ifs := LcOk.of g.toGood h2 (fun X' W' g' hN so' => soundE y elt X' W' scope g' so' (by rw [hN]; exact h4)) fun X' W' g' hN so' => by
          rcases h5 with ⟨rfl, rfl⟩ | ⟨t, e1, rfl, rfl, h5⟩
          · exact sc_none
          · exact sc_some (soundT t e1 X' W' scope g' so' (by rw [hN]; exact h5))
        obtain ⟨wi, gt, tt, t, pi, p1, p2, p3, fo, cov⟩ := se_lc (p := q) g.toGood so h1 (soundI it iter X W _ g.toGood so h3) L
        refine ⟨_, ps_setLc (i := i) g.calm g.nd hN c1 (sw_true g.kind c1 c2 c3) (pi te) (blk_of so h1) p1 p2 p3 fo, fun {m S env σ H De} q rs h => ?_⟩
        rw [evS] at h
        exact cov q rs (h.bind fun d S1 x m1 H1 s1 q1 r1 h1 => h1 m1 H1 _ Step.refl q1 ((rs.mono s1 q).set r1 i))
      | _ => simp [mtE] at hm
    | _ => simp [swB] at hc
theorem swapped_none {e : Expr} {es : List Expr} {k : Nat} {p : Pos} (h : notTup e = true) : swappedStores [.Tuple es k p] e X.env = pure none := by
  cases e <;> first | rfl | cases h
theorem swapped_sub {e o i : Expr} {p : Pos} : swappedStores [.Subscript o i p] e X.env = pure none := by
  cases e <;> rfl
theorem ss_setT (g : GoodS nm cs np C X W) {ts : List Nat} {e : Ex F} {es : List Expr} {k : Nat} {p z : Pos} {v : Expr} (h1 : noComp v = true) (h2 : notTup v = true) (h3 : mtTg X.N X.env.scope ts false (.Tuple es k p) = true) (hm : mtE nm cs X.N X.env.scope e v = true) :
    SS C X W (.setT ts e) (.Assign [.Tuple es k p] v z) := by
  have so := ScOk.self g.fna
  obtain ⟨t, pt, ct⟩ := soundE e v X W _ g.toGood so hm
  obtain ⟨gt, pg, cg⟩ := tg_pg g.toGood so h3
  refine ⟨_, ps_asg pt pg (sws_of h1 _ _) (swapped_none h2) rfl, fun {m S env σ H De} q rs h => ?_⟩
  rw [evS] at h
  refine ct q rs (h.bind fun d S1 x m1 H1 s1 q1 r1 h1 => ?_)
  split at h1
  · rename_i env' he
    exact cg r1 (rs.mono s1 q) he fun σ' rs' _ _ => h1 m1 H1 σ' Step.refl q1 rs'
  · exact h1.elim
/-- o[i] = v, a list or a dict -/
def rSetDct : V → V → V → Hp → (Hp → Prop) → Prop := fun o i v H Q => ∃ a H', o = .ref a ∧ DPut H a i v H' ∧ Q H'
theorem set_any (hu : X.A.units + 200 < cLine) : PSet X (fun o i v H Q => rSetL o i v H Q ∨ rSetDct o i v H Q) := by
  intro pins s σ H o i v ov iv u Q I ro ri rv h
  rcases h with h | h
  · exact set_list pins s σ H o i v ov iv u Q I ro ri rv h
  · obtain ⟨a, H', rfl, g, q⟩ := h
    cases ro
    exact d_setItem (by omega) I g ri rv fun s' I' => ⟨H', I', q⟩
theorem ss_setI (g : GoodS nm cs np C X W) {o i e : Ex F} {eo ei v : Expr} {p z : Pos} (h1 : noComp v = true) (h2 : plainX ei = true) (h3 : mtE nm cs X.N X.env.scope o eo = true) (h4 : mtE nm cs X.N X.env.scope i ei = true) (hm : mtE nm cs X.N X.env.scope e v = true) :
    SS C X W (.setI o i e) (.Assign [.Subscript eo ei p] v z) := by
  have so := ScOk.self g.fna
  obtain ⟨t, pt, ct⟩ := soundE e v X W _ g.toGood so hm
  obtain ⟨t2, pt2, ct2⟩ := soundE o eo X W _ g.toGood so h3
  obtain ⟨t3, pt3, ct3⟩ := soundE i ei X W _ g.toGood so h4
  refine ⟨_, ps_asg pt (pg_sub pt2 pt3 (set_any g.hu) (fun v => by cases ei <;> first | rfl | cases h2)) (sws_of h1 _ _) swapped_sub rfl, fun {m S env σ H De} q rs h => ?_⟩
  rw [evS] at h
  refine ct q rs (h.bind fun d S1 x m1 H1 s1 q1 r1 h1 => ?_)
  have rs1 := rs.mono s1 q
  refine ct2 q1 rs1 (h1.bind fun d2 S2 x2 m2 H2 s2 q2 r2 h2 => ?_)
  have rs2 := rs1.mono s2 q1
  refine ct3 q2 rs2 (h2.bind fun d3 S3 x3 m3 H3 s3 q3 r3 h3 => ?_)
  have rs3 := rs2.mono s3 q2
  split at h3
  · rename_i S4 e4
    unfold setItem at e4
    split at e4
    · cases r2 with
      | ref ex =>
        cases r3
        split at e4
        · rename_i l el
          split at e4
          · rename_i j hj
            cases e4
            have ex3 := s3.get ex
            obtain ⟨xs, ha, r⟩ := q3.ob _ _ _ ex3 el
            have rd := (r1.mono s2 q1).mono s3 q2
            refine .inl ⟨_, xs, _, j, rfl, rfl, ha, by rw [← r.length]; exact hj, ?_⟩
            exact h3 m3 _ σ (.write ex3 (nf_lst ha)) (q3.write ex3 (nf_lst ha) (r.set rd j)) (rs3.mono (.write ex3 (nf_lst ha)) q3)
          · cases e4
        · cases e4
    · cases e4
  · split at h3
    · rename_i S4 e4
      unfold setDct at e4
      split at e4
      · cases r2 with
        | ref ex =>
          split at e4
          · rename_i l k el hk
            split at e4
            · rename_i hl
              cases e4
              have ex3 := s3.get ex
              obtain ⟨kvs, ha, r⟩ := q3.ob _ _ _ ex3 el
              have rd := (r1.mono s2 q1).mono s3 q2
              have st : Step m3 H3 m3 (upd H3 _ (.dK (L2.putK kvs k x))) := .write ex3 (nf_dK ha)
              refine .inr ⟨_, _, rfl, .inl ⟨kvs, k, ha, keyOf_rv r3 hk, by rw [← r.length]; rw [lim_eq] at hl; exact hl, rfl⟩, ?_⟩
              have rk : RK X.K m3 H3 (putD l k d) (L2.putK kvs k x) := r.put (keyOf_ok r3 hk) rd
              exact h3 m3 _ σ st (q3.swap ex3 (fun _ _ r => r.mono st q3) ⟨_, upd_same, rk.1, rk.2.mono st q3⟩) (rs3.mono st q3)
            · cases e4
          · cases e4
      · cases e4
    · exact h3.elim
theorem ss_aug (g : GoodS nm cs np C X W) {i : Nat} {e : Ex F} {x : Str} {p z : Pos} {v : Expr} (hN : X.N[i]? = some x) (hl : locB X.env.scope x = true) (hm : mtE nm cs X.N X.env.scope e v = true) : SS C X W (.aug i e) (.AugAssign (.Name x p) .Add v z) := by
  have so := ScOk.self g.fna
  have lx := so.loc x hl
  obtain ⟨t, pt, ct⟩ := soundE e v X W _ g.toGood so hm
  refine ⟨_, ps_aug (i := i) g.nd hN lx.1 pt ip_add lx.2, fun {m S env σ H De} q rs h => ?_⟩
  rw [evS] at h
  split at h
  · rename_i x0 e0
    obtain ⟨y, e1, ry⟩ := rs.get i x0 e0
    refine ⟨y, e1, ct q rs (h.bind fun d S1 x m1 H1 s1 q1 r1 h1 => ?_)⟩
    split at h1
    · cases ry
      cases r1
      exact ⟨_, _, rfl, rfl, h1 m1 H1 _ Step.refl q1 ((rs.mono s1 q).set (.int _) i)⟩
    · exact h1.elim
  · exact h.elim
theorem ss_expr (g : GoodS nm cs np C X W) {e : Ex F} {z : Pos} {v : Expr} (hc : noComp v = true) (hm : mtE nm cs X.N X.env.scope e v = true) : SS C X W (.expr e) (.Expr v z) := by
  obtain ⟨t, pt, ct⟩ := soundE e v X W _ g.toGood (ScOk.self g.fna) hm
  refine ⟨_, ps_expr pt (sw_of hc _ _), fun {m S env σ H De} q rs h => ?_⟩
  rw [evS] at h
  exact ct q rs (h.bind fun d S1 x m1 H1 s1 q1 r1 h1 => h1 m1 H1 _ Step.refl q1 (rs.mono s1 q))
theorem ss_ret (g : GoodS nm cs np C X W) {e : Ex F} {z : Pos} {v : Expr} (hm : mtE nm cs X.N X.env.scope e v = true) : SS C X W (.ret e) (.Return (some v) z) := by
  obtain ⟨t, pt, ct⟩ := soundE e v X W _ g.toGood (ScOk.self g.fna) hm
  refine ⟨_, ps_ret pt, fun {m S env σ H De} q rs h => ?_⟩
  rw [evS] at h
  exact ct q rs (h.bind fun d S1 x m1 H1 s1 q1 r1 h1 => h1 m1 H1 σ Step.refl q1 _ r1)
theorem ss_if (g : GoodS nm cs np C X W) {c : Ex F} {a b : Sxs F} {ec : Expr} {ea eb : List Stmt} {z : Pos} (hc : mtE nm cs X.N X.env.scope c ec = true) (ha : SSs C X W a ea) (hb : SSs C X W b eb) : SS C X W (.iff c a b) (.If ec ea eb z) := by
  obtain ⟨t, pt, ct⟩ := soundT c ec X W _ g.toGood (ScOk.self g.fna) hc
  obtain ⟨ta, pa, ca⟩ := ha
  obtain ⟨tb, pb, cb⟩ := hb
  refine ⟨_, ps_if pt pa pb, fun {m S env σ H De} q rs h => ?_⟩
  rw [evS] at h
  refine ct q rs (h.bind fun d S1 x m1 H1 s1 q1 r1 h1 => ?_)
  cases r1
  cases d with
  | true => exact iteT' (ca q1 (rs.mono s1 q) h1)
  | false => exact iteF' (cb q1 (rs.mono s1 q) h1)
/-- a loop's turn: what the body's ends want -/
theorem post_body {m : List Addr} {H : Hp} {K : PySem.W.Frag} {r : R Fl} {k : Env → Sto → R Fl} {De : Ends} {N : L2.St → Hp → Prop} {W : WX}
    (h : PostS K m H W (r.bind fun f s => match f with
      | .nx env => k env s
      | .ct env => k env s
      | .bk env => .ok (.nx env) s
      | .ret d => .ok (.ret d) s) De)
    (hN : ∀ env S' m' H' σ', Step m H m' H' → Sim K m' H' S' → RS K m' H' env σ' → PostS K m' H' W (k env S') De → N σ' H') : PostS K m H W r { De with nx := N, ct := N, bk := De.nx } := by
  cases r with
  | err => exact h
  | exc c fs S' => exact h
  | ok f S' =>
    cases f with
    | nx env => exact fun m' H' σ' s q rs => hN env S' m' H' σ' s q rs (PostS.from s h)
    | ct env => exact fun m' H' σ' s q rs => hN env S' m' H' σ' s q rs (PostS.from s h)
    | bk env => exact fun m' H' σ' s q => h m' H' σ' s q
    | ret d => exact fun m' H' σ' s q => h m' H' σ' s q
/-- a walk's turns -/
theorem for_core {tg : List Nat} {one : Bool} {gt : TG} {te : Expr} {b : Sxs F} {tb : TS} (cg : ∀ {m : List Addr} {H : Hp} {d : D} {v : V} {env env' : Env} {σ : L2.St} {Q : L2.St → Hp → Prop}, RV X.K m H d v → RS X.K m H env σ → bindT tg one d env = some env' →
      (∀ σ', RS X.K m H env' σ' → σ'.length = σ.length → (∀ i : Nat, i ∉ tg → σ'[i]? = σ[i]?) → Q σ' H) → gt v σ H Q)
    (cb : ∀ {m : List Addr} {S : Sto} {env : Env} {σ : L2.St} {H : Hp} {De : Ends}, Sim X.K m H S → RS X.K m H env σ → PostS X.K m H W (evSs C b env S) De → tb De σ H)
    {its : Items} {S1 : Sto} {J : L2.It} {m1 : List Addr} {H1 : Hp} {De : Ends} {env : Env} {σ : L2.St} (q1 : Sim X.K m1 H1 S1) (rs : RS X.K m1 H1 env σ) (wk : Walk X.K m1 H1 its J)
    (h1 : PostS X.K m1 H1 W (forL its.2 (bindT tg one) (fun env s => evSs C b env s) its.1 env S1) De) :
    ∃ Iv : Nat → Nat → L2.St → Hp → Prop, (∃ n, Iv 0 n σ H1) ∧ ∀ i n σ' H', Iv i n σ' H' → (J.stop i H' ∧ De.nx σ' H') ∨ (J.go i H' ∧ ∃ N : L2.St → Hp → Prop, (∀ σ2 H2, N σ2 H2 → ∃ n', n' < n ∧ Iv (i + 1) n' σ2 H2) ∧
      ∀ y H2, J.yld i H' y H2 → gt y σ' H2 fun σ3 H3 => tb { De with nx := N, ct := N, bk := De.nx } σ3 H3) := by
  refine ⟨fun i n σ' H' => n = its.1.length - i ∧ i ≤ its.1.length ∧ ∃ m' S' env', Step m1 H1 m' H' ∧ Sim X.K m' H' S' ∧ RS X.K m' H' env' σ' ∧ PostS X.K m' H' W (forL its.2 (bindT tg one) (fun env s => evSs C b env s) (its.1.drop i) env' S') De,
    ⟨its.1.length, by simp, Nat.zero_le _, m1, S1, env, Step.refl, q1, rs, h1⟩, ?_⟩
  rintro i n σ' H' ⟨rfl, hi, m', S', env', st, sq, rs', hp⟩
  by_cases hlt : i < its.1.length
  · rw [List.drop_eq_getElem_cons hlt] at hp
    cases hw : watch its.2 S' with
    | false => rw [forL, hw] at hp; exact hp.elim
    | true =>
      have hp' : PostS X.K m' H' W (match bindT tg one its.1[i] env' with
        | some env => (evSs C b env S').bind fun f s => match f with
          | .nx env => forL its.2 (bindT tg one) (fun env s => evSs C b env s) (its.1.drop (i + 1)) env s
          | .ct env => forL its.2 (bindT tg one) (fun env s => evSs C b env s) (its.1.drop (i + 1)) env s
          | .bk env => .ok (.nx env) s
          | .ret d => .ok (.ret d) s
        | none => .err) De := by
        rw [forL, hw] at hp
        exact hp
      obtain ⟨go, yl⟩ := (wk m' H' S' st sq hw).1 i its.1[i] (List.getElem?_eq_getElem hlt)
      refine .inr ⟨go, fun σ2 H2 => ∃ n, n < its.1.length - i ∧ _, fun σ2 H2 hn => hn, fun y H2 hy => ?_⟩
      obtain ⟨s2, q2, r2⟩ := yl y H2 hy
      cases hbd : bindT tg one its.1[i] env' with
      | none => rw [hbd] at hp'; exact hp'.elim
      | some env1 =>
        rw [hbd] at hp'
        refine cg r2 (rs'.mono s2 sq) hbd fun σ3 rs3 _ _ => ?_
        refine cb q2 rs3 (post_body (PostS.from s2 hp') fun env4 S4 m4 H4 σ4 s4 q4 rs4 h4 => ?_)
        exact ⟨its.1.length - (i + 1), by omega, rfl, by omega, m4, S4, env4, (st.trans s2).trans s4, q4, rs4, h4⟩
  · have ei' : i = its.1.length := by omega
    subst ei'
    rw [List.drop_eq_nil_of_le (Nat.le_refl _)] at hp
    cases hw : watch its.2 S' with
    | false => rw [forL, hw] at hp; exact hp.elim
    | true =>
      rw [forL, hw] at hp
      exact .inl ⟨(wk m' H' S' st sq hw).2, hp m' H' σ' Step.refl sq rs'⟩
theorem ss_for (g : GoodS nm cs np C X W) {tg : List Nat} {one : Bool} {it : SB.It F} {b : Sxs F} {te ei : Expr} {eb : List Stmt} {z : Pos} (h1 : mtTg X.N X.env.scope tg one te = true) (h2 : mtI nm cs X.N X.env.scope it ei = true) (hb : SSs C X W b eb) :
    SS C X W (.for_ tg one it b) (.For te ei eb [] z) := by
  have so := ScOk.self g.fna
  obtain ⟨fo, wi, pi, ci⟩ := soundI it ei X W _ g.toGood so h2
  obtain ⟨gt, pg, cg⟩ := tg_pg g.toGood so h1
  obtain ⟨tb, pb, cb⟩ := hb
  refine ⟨_, ps_for g.pass g.calm (pi te) pg pb fo, fun {m S env σ H De} q rs h => ?_⟩
  rw [evS] at h
  exact ci q rs (h.bind fun its S1 J m1 H1 s1 q1 wk h1 => for_core (te := te) cg cb q1 (rs.mono s1 q) wk h1)
theorem RV.lock {K : PySem.W.Frag} {m : List Addr} {H : Hp} {a : Addr} {kvs : List (Key × V)} {od : Obj} (e : H a = some (.dK kvs)) {d : D} {v : V} (r : RV K m H d v) : RV K m (upd H a (.frz od (.dK kvs))) d v := by
  cases (RVs.cons r .nil).lock (od := od) e with
  | cons h _ => exact h
theorem RV.unlock {K : PySem.W.Frag} {m : List Addr} {H : Hp} {a : Addr} {kvs : List (Key × V)} {od : Obj} (e : H a = some (.frz od (.dK kvs))) {d : D} {v : V} (r : RV K m H d v) : RV K m (upd H a (.dK kvs)) d v := by
  cases (RVs.cons r .nil).unlock e with
  | cons h _ => exact h
theorem keyD_rv {K : PySem.W.Frag} {m : List Addr} {H : Hp} {k : Key} (h : ∀ z, k = .inr z → PyData.strOk z = true) : RV K m H (keyD k) (L2.kV k) := by
  cases k with
  | inl i => exact .int i
  | inr z => exact .str (h z rfl)
theorem unlock_post {m : List Addr} {H : Hp} {p : Nat} {l : List (DKey × D)} {r : R Fl} {De : Ends} {K : PySem.W.Frag} {a : Addr} {kvs : List (Key × V)} {od : Obj} (ex : m[p]? = some a) (ha : H a = some (.dK kvs)) (h : PostS K m H W (unlock p l r) De) :
    PostS K m (upd H a (.frz od (.dK kvs))) W r ⟨fun σ' H' => H' a = some (.frz od (.dK kvs)) ∧ De.nx σ' (upd H' a (.dK kvs)), fun v H' => H' a = some (.frz od (.dK kvs)) ∧ De.rt v (upd H' a (.dK kvs)), fun σ' H' => H' a = some (.frz od (.dK kvs)) ∧ De.bk σ' (upd H' a (.dK kvs)), fun σ' H' => H' a = some (.frz od (.dK kvs)) ∧ De.ct σ' (upd H' a (.dK kvs))⟩ := by
  cases r with
  | err => exact h
  | exc c fs S' => exact h.elim
  | ok f S' =>
    unfold unlock at h
    have h : PostS K m H W (when (decide (S'[p]? = some (.dct true l))) (.ok f (S'.set p (.dct false l)))) De := h
    cases hb : decide (S'[p]? = some (.dct true l)) with
    | false => rw [hb] at h; exact h.elim
    | true =>
      rw [hb] at h
      have e2 := of_decide_eq_true hb
      have h : PostS K m H W (.ok f (S'.set p (.dct false l))) De := h
      have go : ∀ m' H', Step m (upd H a (.frz od (.dK kvs))) m' H' → Sim K m' H' S' → H' a = some (.frz od (.dK kvs)) ∧ Step m H m' (upd H' a (.dK kvs)) ∧ Sim K m' (upd H' a (.dK kvs)) (S'.set p (.dct false l)) := fun m' H' st q => by
        have hf := st.fz a od _ upd_same
        have ex' := st.get ex
        have am : a ∈ m := List.mem_of_getElem? ex
        refine ⟨hf, ⟨st.pre, fun b hb hn => ?_, fun b o hb hn => ?_, fun b o u hb => ?_⟩, ?_⟩
        · have := st.new b hb hn
          have ne : b ≠ a := fun z => hn (by rw [z]; exact am)
          rwa [upd_ne ne] at this
        · have ne : b ≠ a := fun z => hn (z ▸ am)
          rw [upd_ne ne]
          exact st.fr b o (by rw [upd_ne ne]; exact hb) hn
        · have ne : b ≠ a := fun z => by rw [z, ha] at hb; cases hb
          rw [upd_ne ne]
          exact st.fz b o u (by rw [upd_ne ne]; exact hb)
        · obtain ⟨od', kvs', e3, rk⟩ := q.ob _ _ _ ex' e2
          rw [hf] at e3
          cases e3
          exact q.swap ex' (fun _ _ r => r.unlock hf) ⟨kvs, upd_same, rk.1, rk.2.unlock hf⟩
      intro m' H' σ' st q
      obtain ⟨hf, s2, q2⟩ := go m' H' st q
      have rsu : ∀ {env : Env}, RS K m' H' env σ' → RS K m' (upd H' a (.dK kvs)) env σ' := fun rs => ⟨rs.len, fun j d e => let ⟨u, h1, h2⟩ := rs.get j d e; ⟨u, h1, h2.unlock hf⟩⟩
      have h2 := h m' _ σ' s2 q2
      cases f with
      | nx env => exact fun rs => ⟨hf, h2 (rsu rs)⟩
      | bk env => exact fun rs => ⟨hf, h2 (rsu rs)⟩
      | ct env => exact fun rs => ⟨hf, h2 (rsu rs)⟩
      | ret d => exact fun v rv => ⟨hf, h2 v (rv.unlock hf)⟩
theorem ss_forK (g : GoodS nm cs np C X W) {i v : Nat} {b : Sxs F} {x y : Str} {px py z : Pos} {eb : List Stmt} (h1 : X.N[i]? = some x) (h2 : locB X.env.scope x = true) (h3 : X.N[v]? = some y) (h4 : visB X.env.scope y = true) (h5 : okN y = true) (hb : SSs C X W b eb) :
    SS C X W (.forK i v b) (.For (.Name x px) (.Name y py) eb [] z) := by
  have so := ScOk.self g.fna
  have hl := so.loc x h2
  obtain ⟨tb, pb, cb⟩ := hb
  have pn : PG X (.Name x px) (gName i) := pg_name (i := i) g.nd h1 hl.1 hl.2
  have fo : ∀ u, foldedSetIterable (.Name y py) X.env u = pure u := fun _ => rfl
  refine ⟨_, ps_lock (ps_for g.pass g.calm (pi_keys (pe_var h3 (so.vis y h4) (okN_of h5).1 (okN_of h5).2.1)) pn pb fo), fun {m S env σ H De} q rs h => ?_⟩
  rw [evS] at h
  split at h
  · rename_i p e1
    split at h
    · rename_i l e2
      obtain ⟨w, e3, r3⟩ := rs.get v _ e1
      cases r3 with
      | ref ex =>
        rename_i a
        obtain ⟨kvs, ha, rk⟩ := q.ob _ _ _ ex e2
        refine ⟨a, _, ha, trivial, fun od => ?_⟩
        have hex : p < S.length := (List.getElem?_eq_some_iff.mp e2).1
        have q1 : Sim X.K m (upd H a (.frz od (.dK kvs))) (S.set p (.dct true l)) := q.swap ex (fun _ _ r => r.lock ha) ⟨od, kvs, upd_same, rk.1, rk.2.lock ha⟩
        have rs1 : RS X.K m (upd H a (.frz od (.dK kvs))) env σ := ⟨rs.len, fun j d e => let ⟨u, h1, h2⟩ := rs.get j d e; ⟨u, h1, h2.lock ha⟩⟩
        refine ⟨_, e3, a, od, rfl, .inl ⟨kvs, upd_same, ?_⟩⟩
        have hlen := rk.length
        have cg : ∀ {m : List Addr} {H : Hp} {d : D} {v : V} {env env' : Env} {σ : L2.St} {Q : L2.St → Hp → Prop}, RV X.K m H d v → RS X.K m H env σ → bindT [i] true d env = some env' →
            (∀ σ', RS X.K m H env' σ' → σ'.length = σ.length → (∀ j : Nat, j ∉ [i] → σ'[j]? = σ[j]?) → Q σ' H) → gName i v σ H Q := fun {m H d v env env' σ Q} r rs e h => by
          cases e
          exact h _ (rs.set r i) (by simp) fun j hj => List.getElem?_set_ne fun z => hj (by rw [z]; exact List.mem_singleton.mpr rfl)
        refine for_core (te := .Name x px) (its := (l.map fun q => keyD q.1, none)) cg cb q1 rs1 (fun m' H' S' st' q' _ => ?_) ?_
        · have hf := st'.fz a od _ upd_same
          refine ⟨fun j d e => ?_, ⟨hf, by simp [hlen]⟩⟩
          rw [List.getElem?_map] at e
          cases e5 : l[j]? with
          | none => rw [e5] at e; cases e
          | some kd =>
            rw [e5] at e
            cases e
            have hj : j < kvs.length := by rw [← hlen]; exact (List.getElem?_eq_some_iff.mp e5).1
            refine ⟨⟨hf, hj⟩, fun w H2 hw => ?_⟩
            obtain ⟨rfl, k, u, e6, rfl⟩ := hw
            refine ⟨Step.refl, q', ?_⟩
            have ek : kd.1 = k := by
              have := congrArg (fun z => z[j]?) rk.1.1
              simp only [List.getElem?_map, e5, e6, Option.map_some] at this
              exact Option.some.inj this
            have hs := rk.1.2 kd (List.mem_of_getElem? e5)
            show RV X.K m' H2 (keyD kd.1) (L2.kV k)
            rw [ek] at hs ⊢
            refine keyD_rv fun z hz => ?_
            rw [hz] at hs
            exact hs
        · exact unlock_post ex ha h
    · exact h.elim
  · exact h.elim
theorem ss_whl (g : GoodS nm cs np C X W) {c : Ex F} {b : Sxs F} {ec : Expr} {eb : List Stmt} {z : Pos} (hc : mtE nm cs X.N X.env.scope c ec = true) (hb : SSs C X W b eb) : SS C X W (.whl c b) (.While ec eb [] z) := by
  obtain ⟨t, pt, ct⟩ := soundT c ec X W _ g.toGood (ScOk.self g.fna) hc
  obtain ⟨tb, pb, cb⟩ := hb
  refine ⟨_, ps_while g.pass pt pb, fun {m S env σ H De} q rs h => ?_⟩
  rw [evS] at h
  refine ⟨fun n σ' H' => ∃ m' S' env', Sim X.K m' H' S' ∧ RS X.K m' H' env' σ' ∧ PostS X.K m' H' W (whlL (fun env s => evT C c env s) (fun env s => evSs C b env s) n env' S') De, ⟨fuel, m, S, env, q, rs, h⟩, ?_⟩
  rintro n σ' H' ⟨m', S', env', sq, rs', hp⟩
  cases n with
  | zero => exact hp.elim
  | succ n =>
    rw [whlL] at hp
    refine ct sq rs' (hp.bind fun d S1 x m1 H1 s1 q1 r1 h1 => ?_)
    cases r1
    have rs1 := rs'.mono s1 sq
    cases d with
    | false => exact iteF' (h1 m1 H1 σ' Step.refl q1 rs1)
    | true =>
      refine iteT' ⟨fun σ2 H2 => ∃ n', n' < n + 1 ∧ _, fun σ2 H2 hn => hn, ?_⟩
      exact cb q1 rs1 (post_body h1 fun env4 S4 m4 H4 σ4 s4 q4 rs4 h4 => ⟨n, Nat.lt_succ_self n, m4, S4, env4, q4, rs4, h4⟩)
theorem sss_nil : SSs C X W .nil [] := ⟨_, pss_nil, fun {m S env σ H De} q rs h => by
  rw [evSs] at h
  exact h m H σ Step.refl q rs⟩
theorem sss_cons {a : Sx F} {r : Sxs F} {s : Stmt} {l : List Stmt} (ha : SS C X W a s) (hr : SSs C X W r l) : SSs C X W (.cons a r) (s :: l) := by
  obtain ⟨ta, pa, ca⟩ := ha
  obtain ⟨tr, pr, cr⟩ := hr
  refine ⟨_, pss_cons pa pr, fun {m S env σ H De} q rs h => ?_⟩
  rw [evSs] at h
  refine ca q rs ?_
  cases e : evS C a env S with
  | err => rw [e] at h; exact h
  | exc c fs S' => rw [e] at h; exact h
  | ok f S' =>
    rw [e] at h
    cases f with
    | nx env' => exact fun m' H' σ' s q rs' => cr q rs' (PostS.from s h)
    | ct env' => exact h
    | bk env' => exact h
    | ret d => exact h
mutual
theorem soundS : ∀ (x : Sx F) (s : Stmt), GoodS nm cs np C X W → mtS nm cs X.N X.env.scope x s = true → SS C X W x s
  | .set i e, s, g, h => by
    obtain ⟨x, p, v, z, rfl, h1, h2, h3, h4⟩ := is_set h
    exact ss_set g h1 h2 h3 h4
  | .setT is e, s, g, h => by
    obtain ⟨es, k, p, v, z, rfl, h1, h2, h3, h4⟩ := is_setT h
    exact ss_setT g h1 h2 h3 h4
  | .setI o i e, s, g, h => by
    obtain ⟨eo, ei, p, v, z, rfl, h1, h2, h3, h4, h5⟩ := is_setI h
    exact ss_setI g h1 h2 h3 h4 h5
  | .aug i e, s, g, h => by
    obtain ⟨x, p, v, z, rfl, h1, h2, h3⟩ := is_aug h
    exact ss_aug g h1 h2 h3
  | .expr e, s, g, h => by
    obtain ⟨v, z, rfl, h1, h2⟩ := is_expr h
    exact ss_expr g h1 h2
  | .ret e, s, g, h => by
    obtain ⟨v, z, rfl, h1⟩ := is_ret h
    exact ss_ret g h1
  | .retN, s, g, h => by
    obtain ⟨z, rfl⟩ := is_retN h
    exact ss_of ps_retN fun q rs h => by
      rename_i m S env σ H De
      rw [evS] at h
      exact h m H σ Step.refl q _ .non
  | .iff c a b, s, g, h => by
    obtain ⟨ec, ea, eb, z, rfl, h1, h2, h3⟩ := is_iff h
    exact ss_if g h1 (soundSs a ea g h2) (soundSs b eb g h3)
  | .for_ tg one it b, s, g, h => by
    obtain ⟨te, ei, eb, z, rfl, h1, h2, h3⟩ := is_for h
    exact ss_for g h1 h2 (soundSs b eb g h3)
  | .forK i v b, s, g, h => by
    obtain ⟨x, px, y, py, eb, z, rfl, h1, h2, h3, h4, h5, h6⟩ := is_forK h
    exact ss_forK g h1 h2 h3 h4 h5 (soundSs b eb g h6)
  | .whl c b, s, g, h => by
    obtain ⟨ec, eb, z, rfl, h1, h2⟩ := is_whl h
    exact ss_whl g h1 (soundSs b eb g h2)
  | .brk, s, g, h => by
    obtain ⟨z, rfl⟩ := is_brk h
    exact ss_of ps_break fun q rs h => by rw [evS] at h; exact h _ _ _ Step.refl q rs
  | .cnt, s, g, h => by
    obtain ⟨z, rfl⟩ := is_cnt h
    exact ss_of ps_continue fun q rs h => by rw [evS] at h; exact h _ _ _ Step.refl q rs
  | .pas, s, g, h => by
    obtain ⟨z, rfl⟩ := is_pas h
    exact ss_of ps_pass fun q rs h => by rw [evS] at h; exact h _ _ _ Step.refl q rs
theorem soundSs : ∀ (x : Sxs F) (s : List Stmt), GoodS nm cs np C X W → mtSs nm cs X.N X.env.scope x s = true → SSs C X W x s
  | .nil, l, g, h => by
    obtain rfl := iss_nil h
    exact sss_nil
  | .cons a r, l, g, h => by
    obtain ⟨s, l', rfl, h1, h2⟩ := iss_cons h
    exact sss_cons (soundS a s g h1) (soundSs r l' g h2)
end
end
end SB
end

section
set_option maxHeartbeats 4000000
namespace SB
open PySem PySem.Spec PyProof.Rows L2

/-! ### a call's end: what is forgotten -/
section
variable {K : PySem.W.Frag} {m m' : List Addr} {H H' : Hp} {S S' : Sto}
theorem Step.short (a : Step m H m' H') : Step m H m H' := ⟨⟨[], by simp⟩, fun _ x y => absurd x y, fun b o e n => by
  by_cases hb : b ∈ m'
  · rw [a.new b hb n] at e; cases e
  · exact a.fr b o e n, a.fz⟩
theorem Step.pre_take (a : Step m H m' H') : m'.take m.length = m := by
  obtain ⟨r, e⟩ := a.pre
  rw [e]; simp
theorem Step.at_lt (a : Step m H m' H') {i : Nat} (h : i < m.length) : m[i]? = m'[i]? := by
  obtain ⟨r, e⟩ := a.pre
  rw [e, List.getElem?_append_left h]
theorem kept_self (n : Nat) : ∀ S : Sto, keptOk n S S = true
  | [] => rfl
  | a :: l => by simp [keptOk, kept_self n l]
theorem sim_short (q : Sim K m H S) (a : Step m H m' H') (q' : Sim K m' H' S') (k : keptOk S.length S (S'.take S.length) = true) : Sim K m H' (S'.take S.length) := by
  have hl : S.length ≤ S'.length := by
    obtain ⟨r, e⟩ := a.pre
    rw [← q.len, ← q'.len, e]; simp
  have := Sim.take q' hl k q.up
  have e : m'.take S.length = m := by rw [← q.len]; exact a.pre_take
  rwa [e] at this
theorem rv_short (q : Sim K m H S) (a : Step m H m' H') {d : D} {v : V} (u : d.upTo S.length = true) (r : RV K m' H' d v) : RV K m H' d v :=
  r.cut (fun i hi => a.at_lt (by rw [q.len]; exact hi)) u
theorem rvs_short (q : Sim K m H S) (a : Step m H m' H') {d : List D} {v : List V} (u : D.upTos S.length d = true) (r : RVs K m' H' d v) : RVs K m H' d v :=
  r.cut (fun i hi => a.at_lt (by rw [q.len]; exact hi)) u
end
theorem when_of {α : Type} {b : Bool} {r : R α} {K : PySem.W.Frag} {β : Type} {rel : List Addr → Hp → α → β → Prop} {m : List Addr} {H : Hp} {E : XW} {Q : β → Hp → Prop} (h : Post K rel m H E (when b r) Q) : b = true ∧ Post K rel m H E r Q := by
  cases b with
  | true => exact ⟨rfl, h⟩
  | false => exact h.elim
section
variable {K : PySem.W.Frag} {m : List Addr} {H : Hp} {S : Sto} {E : XW} {Q : VK}
theorem rf_short {m' : List Addr} {H' : Hp} (q : Sim K m H S) (a : Step m H m' H') : ∀ {fs : List (Str × D)} {vs}, fsUp S.length fs = true → RF K m' H' fs vs → RF K m H' fs vs
  | [], _, _, r => by cases r; exact .nil
  | f :: l, _, u, r => by
    rw [fsUp, Bool.and_eq_true] at u
    cases r with
    | cons h t => exact .cons (rv_short q a u.1 h) (rf_short q a u.2 t)
theorem xr_short {m' : List Addr} {H' : Hp} (q : Sim K m H S) (a : Step m H m' H') {c : Str} {fs : List (Str × D)} {cls : Value} {dx : Option Addr} (u : fsUp S.length fs = true) (r : XR K m' H' c fs cls dx) : XR K m H' c fs cls dx := by
  obtain ⟨e, r⟩ := r
  refine ⟨e, ?_⟩
  cases fs with
  | nil => exact r
  | cons f l =>
    obtain ⟨a', vs, e1, e2, e3⟩ := r
    exact ⟨a', vs, e1, e2, rf_short q a u e3⟩
theorem gcR_ok (g : Gc) (q : Sim K m H S) {d : D} {S' : Sto} (h : Post K (RV K) m H E (gcR g S d S') Q) : ∀ v m' H', Step m H m' H' → Sim K m' H' S' → RV K m' H' d v → Q v H' := by
  intro v m' H' a q' r
  cases g with
  | raw => exact h v m' H' a q' r
  | pur =>
    obtain ⟨hb, h⟩ := when_of h
    simp only [Bool.and_eq_true, decide_eq_true_eq] at hb
    have q2 := sim_short q a q' (by rw [hb.1]; exact kept_self _ _)
    rw [hb.1] at q2
    exact h v m H' a.short q2 (rv_short q a hb.2 r)
  | «mut» =>
    obtain ⟨hb, h⟩ := when_of h
    rw [Bool.and_eq_true] at hb
    exact h v m H' a.short (sim_short q a q' hb.1) (rv_short q a hb.2 r)
  | new =>
    cases d with
    | ref i =>
      unfold gcR at h
      simp only at h
      split at h
      · rename_i l el
        obtain ⟨hb, h⟩ := when_of h
        simp only [Bool.and_eq_true, decide_eq_true_eq] at hb
        obtain ⟨⟨h1, h2⟩, h3⟩ := hb
        cases r with
        | ref ex =>
          rename_i x
          have ro := q'.ob _ _ _ ex el
          have hxm : x ∉ m := fun z => by
            obtain ⟨j, hj, e⟩ := List.getElem_of_mem z
            have e1 : m'[j]? = some x := by rw [← a.at_lt hj, List.getElem?_eq_getElem hj, e]
            have := nd_ix q'.nd ex e1
            rw [q.len] at hj
            omega
          have st : Step m H (m ++ [x]) H' := ⟨⟨[x], rfl⟩, fun b hb n => by
            rcases List.mem_append.mp hb with hb | hb
            · exact absurd hb n
            · rw [List.mem_singleton.mp hb]
              exact a.new x (List.mem_of_getElem? ex) hxm, fun b o e n => a.short.fr b o e n, a.fz⟩
          have q2 := sim_short q a q' (by rw [h1]; exact kept_self _ _)
          rw [h1] at q2
          have hc : ∀ i, i < S.length → (m ++ [x])[i]? = m'[i]? := fun i hi => by
            rw [← q.len] at hi
            rw [List.getElem?_append_left hi]
            exact a.at_lt hi
          refine h (.ref x) (m ++ [x]) H' st ⟨by simp [q.len], ?_, fun j b o e1 e2 => ?_⟩ (.ref ?_)
          · rw [List.nodup_append]
            exact ⟨q.nd, by simp, fun b hb c hc e => by rw [List.mem_singleton] at hc; subst hc; subst e; exact hxm hb⟩
          · by_cases hj : j < S.length
            · rw [List.getElem?_append_left hj] at e2
              rw [List.getElem?_append_left (by rw [q.len]; exact hj)] at e1
              have z := q2.ob j b o e1 e2
              exact z.cutO (n := m.length) (fun i hi => List.getElem?_append_left hi) z.up_
            · by_cases hj2 : j = S.length
              · subst hj2
                simp at e2
                subst e2
                rw [← q.len] at e1
                simp at e1
                subst e1
                exact ro.cutO hc h3
              · rw [List.getElem?_eq_none (by simp; omega)] at e2
                cases e2
          · rw [← q.len]; simp
      · exact h.elim
    | _ => exact h.elim
theorem gcX_ok (g : Gc) (q : Sim K m H S) {c : Str} {fs : List (Str × D)} {S' : Sto} (h : Post K (RV K) m H E (gcX g S c fs S') Q) : ∀ cls dx m' H', Step m H m' H' → Sim K m' H' S' → XR K m' H' c fs cls dx → E cls dx m' H' ∨ E cls dx m H' := by
  intro cls dx m' H' a q' r
  have pur : Post K (RV K) m H E (when (decide (S'.take S.length = S) && fsUp S.length fs) (.exc c fs S)) Q → E cls dx m H' := fun h => by
    obtain ⟨hb, h⟩ := when_of h
    simp only [Bool.and_eq_true, decide_eq_true_eq] at hb
    have q2 := sim_short q a q' (by rw [hb.1]; exact kept_self _ _)
    rw [hb.1] at q2
    exact h cls dx m H' a.short q2 (xr_short q a hb.2 r)
  cases g with
  | raw => exact .inl (h cls dx m' H' a q' r)
  | pur => exact .inr (pur h)
  | new => exact .inr (pur h)
  | «mut» =>
    obtain ⟨hb, h⟩ := when_of h
    rw [Bool.and_eq_true] at hb
    exact .inr (h cls dx m H' a.short (sim_short q a q' hb.1) (xr_short q a hb.2 r))
theorem out_ok {E : XK} (g : Gc) (q : Sim K m H S) {r : R Fl} (h : Post K (RV K) m H (fun c d _ H' => E c d H') (outOf g S r) Q) : PostS K m H (fun c d _ H' => E c d H') r { nx := fun _ H' => Q .non H', rt := Q } := by
  cases r with
  | err => exact h.elim
  | exc c fs S' => exact fun cls dx m' H' σ' a q' x => (gcX_ok g q h cls dx m' H' a q' x).elim id id
  | ok f S' =>
    cases f with
    | nx env => exact fun m' H' σ' a q' _ => gcR_ok g q h .non m' H' a q' .non
    | ret d => exact fun m' H' σ' a q' v r => gcR_ok g q h v m' H' a q' r
    | bk env => exact h.elim
    | ct env => exact h.elim
end

/-! ### the slots at the entry -/
theorem RVs.rs {K : PySem.W.Frag} {m : List Addr} {H : Hp} {ds : List D} {vs : List V} (r : RVs K m H ds vs) (N : List Str) : RS K m H (SB.start N.length ds) (L2.start N vs) := by
  unfold SB.start L2.start
  have hl := r.length
  refine ⟨by simp [hl], fun i d e => ?_⟩
  by_cases hi : i < ds.length
  · rw [List.getElem?_append_left (by simpa using hi), List.getElem?_map] at e
    cases e1 : ds[i]? with
    | none => rw [e1] at e; cases e
    | some a =>
      rw [e1] at e
      cases e
      obtain ⟨v, e2, e3⟩ := r.get e1
      exact ⟨v, by rw [List.getElem?_append_left (by simp; omega), List.getElem?_map, e2]; rfl, e3⟩
  · rw [List.getElem?_append_right (by simp; omega), List.getElem?_replicate] at e
    split at e <;> cases e

/-! ### every def keeps its promise -/
structure DefOk {F : Type} (nm : F → Str) (cs : List (Str × D)) (np : F → Nat) (T : F → Fn F) (K : PySem.W.Frag) (f : F) : Prop where
  ex : ∃ (qual : Str) (params : Arguments) (body : List Stmt) (scope : Scope) (fd : FuncData) (N ps : List Str), FunD K (nm f) qual params body scope [] [] (He.ga K (nm f)) fd ∧ FnScope N ps scope ∧ N.length = (T f).n ∧ ps.length = (T f).ps ∧ np f = (T f).ps ∧ Binds K fd ps [] ∧ mtSs nm cs N scope (T f).body body = true
theorem spF_len {K : PySem.W.Frag} {F : Type} {T : F → Fn F} {k : Nat} {f : F} {vs : List V} {H : Hp} {Q : VK} {E : XK} (h : spF K (callF T k f) vs H Q E) : vs.length = (T f).ps := by
  obtain ⟨m, S, ds, q, r, p⟩ := h
  cases k with
  | zero => exact p.elim
  | succ k =>
    rw [callF] at p
    have := (when_of p).1
    rw [decide_eq_true_eq] at this
    rw [← r.length, this]
theorem step_ok {F : Type} {nm : F → Str} {cs : List (Str × D)} {np : F → Nat} {T : F → Fn F} {P : Program} {w : World} {K : PySem.W.Frag} {mg : Str → Option Value} {base : Heap} {k : Nat} {f : F}
    (G : Glob nm cs K mg) (ih : ∀ f, FnIs P w K mg base k (np f) (nm f) (callF T k f)) {qual : Str} {params : Arguments} {body : List Stmt} {scope : Scope} {fd : FuncData} {N ps : List Str}
    (h1 : FunD K (nm f) qual params body scope [] [] (He.ga K (nm f)) fd) (h2 : FnScope N ps scope) (h3 : N.length = (T f).n) (h4 : ps.length = (T f).ps) (h7 : mtSs nm cs N scope (T f).body body = true) :
    FnOk P w K mg base (L2.CX P w) (k + 1) (He.ga K (nm f)) fd ps (spF K (callF T (k + 1) f)) := by
  refine h1.ok h2 (fun vs H Q E h => by rw [spF_len h, h4]) fun cdv A outer s H vs Q E hr h => ?_
  have g : GoodS nm cs np (callF T k) (cxOf (L2.CX P w) P w K mg base N qual scope (He.ga K (nm f)) cdv A outer s H E) (fun cls d _ H => E cls d H) :=
    { calm := rfl, nd := h2.nd, tk := takes_of rfl rfl rfl rfl, glob := G, k := ⟨k, hr, ih⟩, fna := fun _ => rfl, kind := h2.kind, pass := PassesOwn.leaving }
  obtain ⟨t, pt, ct⟩ := soundSs (T f).body body g h7
  refine ⟨t, pt, ?_⟩
  obtain ⟨m, S, ds, q, r, p⟩ := h
  rw [callF] at p
  obtain ⟨_, p⟩ := when_of p
  have rs := r.rs N
  rw [h3] at rs
  exact ct q rs (out_ok _ q p)
theorem all_ok {F : Type} {nm : F → Str} {cs : List (Str × D)} {np : F → Nat} {T : F → Fn F} {P : Program} {w : World} {K : PySem.W.Frag} {mg : Str → Option Value} {base : Heap}
    (G : Glob nm cs K mg) (hd : ∀ f, DefOk nm cs np T K f) : ∀ k f, FnIs P w K mg base k (np f) (nm f) (callF T k f)
  | 0, f => by
    obtain ⟨qual, params, body, scope, fd, N, ps, h1, h2, h3, h4, h5, h6, h7⟩ := (hd f).ex
    exact ⟨fd, ps, h6, by rw [h4, h5], fun vs H Q E h => by rw [spF_len h, h4], fun A outer s H args us vs Q E _ _ _ _ h => by
      obtain ⟨m, S, ds, q, r, p⟩ := h
      exact p.elim⟩
  | k + 1, f => by
    obtain ⟨qual, params, body, scope, fd, N, ps, h1, h2, h3, h4, h5, h6, h7⟩ := (hd f).ex
    exact ⟨fd, ps, h6, by rw [h4, h5], step_ok G (fun f => all_ok G hd k f) h1 h2 h3 h4 h7⟩
end SB
end

section
set_option maxHeartbeats 4000000
namespace SB
open PySem PySem.Spec PyProof.Rows L2

/-! ### constants of the text -/
mutual
def conB (K : PySem.W.Frag) : D → Value → Bool
  | .non, .none => true
  | .bl b, .bool c => decide (b = c)
  | .int i, .int j _ => decide (i = j)
  | .str z, .str y _ => decide (z = y) && PyData.strOk z
  | .tup l, .ref a => (match K.lookup a with
    | some ⟨.type c, _, .seq ys _, _⟩ => decide (c = "tuple") && (decide (ys.size ≤ sizeLine) && conBs K l ys.toList)
    | _ => false)
  | _, _ => false
def conBs (K : PySem.W.Frag) : List D → List Value → Bool
  | [], [] => true
  | d :: l, u :: r => conB K d u && conBs K l r
  | _, _ => false
end
/-- where its tuples stand -/
def conAs (g : Addr → Option Obj) : Nat → Value → List Addr
  | 0, _ => []
  | n + 1, .ref a => a :: (match g a with
    | some ⟨_, _, .seq ys _, _⟩ => ys.toList.flatMap (conAs g n)
    | _ => [])
  | _, _ => []
mutual
theorem conB_ok {K : PySem.W.Frag} : ∀ {d : D} {u : Value}, conB K d u = true → ∃ v, RelV v u ∧ ∀ m H, RV K m H d v
  | .non, u, h => by
    cases u with
    | none => exact ⟨.non, rfl, fun _ _ => .non⟩
    | _ => exact Bool.noConfusion (show false = true from h)
  | .bl b, u, h => by
    cases u with
    | bool c =>
      obtain rfl : b = c := of_decide_eq_true (show decide (b = c) = true from h)
      exact ⟨.bl b, rfl, fun _ _ => .bl b⟩
    | _ => exact Bool.noConfusion (show false = true from h)
  | .int i, u, h => by
    cases u with
    | int j t =>
      obtain rfl : i = j := of_decide_eq_true (show decide (i = j) = true from h)
      exact ⟨.int i, ⟨t, rfl⟩, fun _ _ => .int i⟩
    | _ => exact Bool.noConfusion (show false = true from h)
  | .str z, u, h => by
    cases u with
    | str y t =>
      have h' : (decide (z = y) && PyData.strOk z) = true := h
      rw [Bool.and_eq_true, decide_eq_true_eq] at h'
      obtain ⟨rfl, h2⟩ := h'
      exact ⟨.str z, ⟨t, rfl⟩, fun _ _ => .str h2⟩
    | _ => exact Bool.noConfusion (show false = true from h)
  | .tup l, u, h => by
    cases u with
    | ref a =>
      rw [conB] at h
      split at h
      · rename_i c od ys n sl e
        simp only [Bool.and_eq_true, decide_eq_true_eq] at h
        obtain ⟨h1, h2, h3⟩ := h
        obtain ⟨vs, r, q⟩ := conBs_ok h3
        exact ⟨.ref a, rfl, fun m H => .tup (.inr ⟨_, ys, n, e, congrArg Value.type h1, rfl, h2, r⟩) (q m H)⟩
      · cases h
    | _ => exact Bool.noConfusion (show false = true from h)
  | .ref _, u, h => by cases u <;> exact Bool.noConfusion (show false = true from h)
  | .fn _, u, h => by cases u <;> exact Bool.noConfusion (show false = true from h)
  | .lis _, u, h => by cases u <;> exact Bool.noConfusion (show false = true from h)
theorem conBs_ok {K : PySem.W.Frag} : ∀ {l : List D} {us : List Value}, conBs K l us = true → ∃ vs, Vals vs us ∧ ∀ m H, RVs K m H l vs
  | [], [], _ => ⟨[], .nil, fun _ _ => .nil⟩
  | [], _ :: _, h => by cases h
  | _ :: _, [], h => by cases h
  | d :: l, u :: us, h => by
    have h' : (conB K d u && conBs K l us) = true := h
    rw [Bool.and_eq_true] at h'
    obtain ⟨v, r, q⟩ := conB_ok h'.1
    obtain ⟨vs, rs, qs⟩ := conBs_ok h'.2
    exact ⟨v :: vs, .cons r rs, fun m H => .cons (q m H) (qs m H)⟩
end
def conK (K : PySem.W.Frag) (p : Str × D) : Bool := match PySem.W.nsIn K mainGlobals p.1 with
  | some (some u) => conB K p.2 u
  | _ => false

/-! ### what the law's head tells -/
abbrev AlS : Type := Bool × List He.FnW
def obsS (fa : List He.Fa) (fn : List He.DefD) (cs : List (Str × D)) (K : PySem.W.Frag) : AlS := ((fa.all fun f => f.ok K) && ((fn.all fun d => d.ok K) && cs.all (conK K)), fn.map fun d => He.fnW K d.at_)
def valS (fn : List He.DefD) : AlS := (true, fn.map He.DefD.val)
def fragS (n : Nat) (cs : List (Str × D)) (g : Addr → Option Obj) : PySem.W.Frag :=
  He.frG g (He.asD g 4 ++ cs.flatMap fun p => match PySem.W.nsIn (He.frG g [mainGlobals]) mainGlobals p.1 with
    | some (some u) => conAs g n u
    | _ => [])
def obsSG (n : Nat) (fa : List He.Fa) (fn : List He.DefD) (cs : List (Str × D)) (g : Addr → Option Obj) : AlS := obsS fa fn cs (fragS n cs g)
def SaysS (fa : List He.Fa) (fn : List He.DefD) (cs : List (Str × D)) (K : PySem.W.Frag) : Prop := obsS fa fn cs K = valS fn
def hookS (n : Nat) (fa : List He.Fa) (fn : List He.DefD) (cs : List (Str × D)) : PySem.W.Hook where
  α := AlS
  obs := fun s => obsSG n fa fn cs s.heap.get?
  val := fun _ => valS fn
  says := fun _ h => ∃ K : PySem.W.Frag, K.In h ∧ SaysS fa fn cs K
  of := fun _ _ e => ⟨_, He.frG_in, e⟩
  keeps := fun _ _ _ ⟨K, hK, c⟩ k => ⟨K, PySem.W.Frag.In.keeps hK k, c⟩
theorem obsSG_eq {n : Nat} {fa : List He.Fa} {fn : List He.DefD} {cs : List (Str × D)} {g : Addr → Option Obj} {s : Shared} (h : ∀ a, g a = s.heap.get? a) : obsSG n fa fn cs g = (hookS n fa fn cs).obs s := by
  rw [show g = s.heap.get? from funext h]
  rfl
section
variable {fa : List He.Fa} {fn : List He.DefD} {cs : List (Str × D)} {K : PySem.W.Frag}
theorem SaysS.parts (c : SaysS fa fn cs K) : (fa.all fun f => f.ok K) = true ∧ (fn.all fun d => d.ok K) = true ∧ cs.all (conK K) = true := by
  have z : ((fa.all fun f => f.ok K) && ((fn.all fun d => d.ok K) && cs.all (conK K))) = true := congrArg (fun z : AlS => z.1) c
  simpa only [Bool.and_eq_true] using z
theorem SaysS.fact (c : SaysS fa fn cs K) {f : He.Fa} (h : f ∈ fa) : f.ok K = true := List.all_eq_true.mp c.parts.1 f h
theorem SaysS.def_ (c : SaysS fa fn cs K) {d : He.DefD} (h : d ∈ fn) : ∃ fd, FunD K d.name d.qual d.params d.body d.scope (d.dvs K) (d.kws K) (He.fAd K d.at_) fd := by
  have e : fn.map (fun d => He.fnW K d.at_) = fn.map He.DefD.val := congrArg (fun z : AlS => z.2) c
  exact He.DefD.funD (List.map_inj_left.mp e d h) (List.all_eq_true.mp c.parts.2.1 d h)
theorem SaysS.con {h : Heap} {mg : Str → Option Value} (c : SaysS fa fn cs K) (X : K.In h) (G : h.Ns mainGlobals mg) {p : Str × D} (hp : p ∈ cs) : ∃ v u, mg p.1 = some u ∧ RelV v u ∧ ∀ m H, RV K m H p.2 v := by
  have z := List.all_eq_true.mp c.parts.2.2 p hp
  unfold conK at z
  split at z
  · rename_i u e
    obtain ⟨v, r, q⟩ := conB_ok z
    exact ⟨v, u, PySem.W.mg_of X G e, r, q⟩
  · cases z
end

/-! ### the table of a program -/
/-- what is written of each def: its parameters, its body, its scope, its names -/
structure Src (F : Type) where
  nm : F → Str
  cs : List (Str × D)
  T : F → Fn F
  fs : List F
  params : F → Arguments
  body : F → List Stmt
  scope : F → Scope
  N : F → List Str
  ps : F → List Str
def Src.dd {F : Type} (s : Src F) (f : F) : He.DefD := ⟨(s.nm f, none), s.nm f, s.nm f, s.params f, s.body f, s.scope f, [], []⟩
def Src.fn {F : Type} (s : Src F) : List He.DefD := s.fs.map s.dd
def Src.fa {F : Type} (s : Src F) : List He.Fa := (s.fs.map fun f => He.Fa.glo (s.nm f)) ++ bNames.map He.Fa.free
structure Src.Ok {F : Type} (s : Src F) : Prop where
  all : ∀ f, f ∈ s.fs
  sc : ∀ f, FnScope (s.N f) (s.ps f) (s.scope f)
  n : ∀ f, (s.N f).length = (s.T f).n
  p : ∀ f, (s.ps f).length = (s.T f).ps
  mt : ∀ f, mtSs s.nm s.cs (s.N f) (s.scope f) (s.T f).body (s.body f) = true
  bind : ∀ (f : F) (kV doc pm : Value) (an : Option Addr) (cdv ct : Value) (us : List Value), us.length = (s.ps f).length → bindArgs (PySem.W.fnOf (s.nm f) (s.nm f) (s.params f) (s.body f) (s.scope f) .none kV doc pm an cdv ct) ⟨us, []⟩ = pure ((s.ps f).zip us)
section
variable {F : Type} {s : Src F} {P : Program} {w : World} {K : PySem.W.Frag} {h : Heap} {mg : Str → Option Value}
theorem Src.Ok.glob (o : s.Ok) (X : K.In h) (G : h.Ns mainGlobals mg) (c : SaysS s.fa s.fn s.cs K) : Glob s.nm s.cs K mg where
  free := fun n hn => He.free_ok X G (c.fact (f := .free n) (List.mem_append_right _ (List.mem_map.mpr ⟨n, hn, rfl⟩)))
  con := fun p hp => c.con X G hp
  fn := fun f => ⟨He.glo_ok X G (c.fact (f := .glo (s.nm f)) (List.mem_append_left _ (List.mem_map.mpr ⟨f, o.all f, rfl⟩))), by
    obtain ⟨fd, FD⟩ := c.def_ (List.mem_map.mpr ⟨f, o.all f, rfl⟩)
    exact FD.kp⟩
theorem Src.Ok.def_ (o : s.Ok) (c : SaysS s.fa s.fn s.cs K) (f : F) : DefOk s.nm s.cs (fun f => (s.T f).ps) s.T K f := by
  obtain ⟨fd, FD⟩ := c.def_ (List.mem_map.mpr ⟨f, o.all f, rfl⟩)
  exact ⟨_, _, _, _, fd, s.N f, s.ps f, FD, o.sc f, o.n f, o.p f, rfl, FunD.bindsN FD (o.bind f), o.mt f⟩
theorem Src.Ok.law (o : s.Ok) (X : K.In h) (G : h.Ns mainGlobals mg) (c : SaysS s.fa s.fn s.cs K) (law : F) {x : Str} (hps : s.ps law = [x]) (k : Nat) {fa : Addr} (hfa : mg (s.nm law) = some (.ref fa)) :
    ∃ fd : FuncData, (∀ (sh : Shared) (v : Value), BindsTo sh fd ⟨[v], []⟩ [(x, v)]) ∧ ∀ base : Heap, FnOk P w K mg base (L2.CX P w) (k + 1) fa fd [x] (spF K (callF s.T (k + 1) law)) := by
  have gl := o.glob X G c
  obtain ⟨fd, FD⟩ := c.def_ (List.mem_map.mpr ⟨law, o.all law, rfl⟩)
  have e := hfa.symm.trans (gl.fn law).1
  cases e
  refine ⟨fd, fun sh v => ?_, fun base => ?_⟩
  · have b := FunD.bindsA (ps := s.ps law) FD (o.bind law) sh [v] (by rw [hps]; rfl)
    rw [hps] at b
    exact b
  · have ih := fun f => all_ok (P := P) (w := w) (base := base) gl (o.def_ c) k f
    have r := step_ok (T := s.T) gl ih FD (o.sc law) (o.n law) (o.p law) (o.mt law)
    rw [hps] at r
    exact r
/-- the law's own promise, at the script -/
theorem law_sp {T : F → Fn F} {k : Nat} {law : F} {n : Nat} (hT : ∀ ns : List Int, ns.length ≤ n → ∃ s, callF T k law [.lis (ns.map D.int)] [] = .ok (.bl true) s) (H : Hp) (a : Addr) (ns : List Int) (hn : ns.length ≤ n) (hO : Only H) (hS : SqL K H a (ns.map V.int)) :
    spF K (callF T k law) [.ref a] H (fun v _ => v = .bl true) fun _ _ _ => False := by
  have rvs : ∀ l : List Int, RVs K [] H (l.map D.int) (l.map V.int) := fun l => by
    induction l with
    | nil => exact .nil
    | cons a l ih => exact .cons (.int a) ih
  have fz : FzL K H a (ns.map V.int) := by
    rcases hS with (h | ⟨o, h⟩) | h
    · rcases hO a with e | ⟨o, xs, e⟩
      · rw [e] at h; cases h
      · rw [e] at h; cases h
    · exact .inl ⟨o, h⟩
    · exact .inr h
  obtain ⟨s, e⟩ := hT ns hn
  refine ⟨[], [], [.lis (ns.map D.int)], ⟨rfl, List.nodup_nil, fun i a o h => by simp at h⟩, .cons (.lis fz (rvs ns)) .nil, ?_⟩
  rw [e]
  intro v m' H' st q r
  cases r
  rfl
theorem no_exc {P : Program} {w : World} (H : Hp) (s : Shared) (e : Value) (s' : Shared) (c : L2.CX P w [] H s (fun _ _ _ => False) e s') : False := by
  obtain ⟨_, _, _, _, _, _, _, _, _, _, _, _, f⟩ := c
  exact f
end
/-- a law's walk; what may be let out depends on the world -/
theorem walk_w {l : PySem.W.OpenLaw} {n k : Nat} {q : Program} {loose : List Str} {XP : (Str → Option Value) → Heap → Prop} {YP : World → Heap → Prop} {d : DefRec} {x : Str}
    (hn : l.most = some n) (n63 : n ≤ sizeLine) (dfl : d.params.defaults = []) (room : Room k callerA)
    (F : ∀ (w : World) (mg : Str → Option Value) (fa : Addr) (h : Heap), YP w h → h.Ns mainGlobals mg → mg d.name = some (.ref fa) →
      ∃ (K : PySem.W.Frag) (fd : FuncData) (sp : Sp), K.In h ∧ (∀ (sh : Shared) (v : Value), BindsTo sh fd ⟨[v], []⟩ [(x, v)]) ∧
        (∀ (H : Hp) (a : Addr) (ns : List Int), ns.length ≤ n → Only H → SqL K H a (ns.map V.int) → sp [.ref a] H (fun v _ => v = .bl true) fun _ _ _ => False) ∧
        ∀ base : Heap, FnOk l.prog w K mg base (L2.CX l.prog w) k fa fd [x] sp) :
    PySem.W.WalkO q loose XP YP l.row.toRowW d [] (fun g vs => PySem.call g vs) := by
  refine Att.attach_call hn dfl fun w s0 s1 mg mb fa ob pm cd doc a us ns G Y h1 h2 h3 h4 h5 h6 h7 h8 => ?_
  obtain ⟨K, fd, sp, inK, binds, gives, okF⟩ := F w mg fa _ Y G.T.g h4
  exact law_call inK G.T.g G.T.b G.T.builtins G.T.nolimit h8 h5 h6 (Nat.le_trans h7 n63) room (fun base _ _ => okF base) binds (fun H only seq => gives H a ns h7 only seq) fun H e s' c => no_exc H s1 e s' c
end SB
end

section
set_option maxHeartbeats 0
namespace SB.K61
open PySem SB.Ev
inductive F | f_are_ascending_ids | f_have_common | f_are_valid_ids | f_is_valid_leaf | f_is_allowed_code | f_is_text | f_is_leaf_value | f_is_name | f_body_of | f_with_body | f_live_ids | f_is_valid_name | f_is_valid_part | f_is_valid_field | f_is_valid_body | f_is_described | f_is_known | f_part_depth | f_has_value | f_least_depths | f_simple_case | f_part_count | f_simple_count | f_simple_counts | f_are_bounded | f_is_valid | f_law_cell | f_law_draws | f_law_next | f_law_big | f_law_char | f_law_ids | f_law_split | f_law_leaf | f_law_leaf_value | f_law_part | f_law_list_body | f_law_record_body | f_law_union_body | f_law_schema | f_law_with_body | f_law_same | f_law
  deriving DecidableEq
def nm : F → Str
  | .f_are_ascending_ids => "are_ascending_ids"
  | .f_have_common => "have_common"
  | .f_are_valid_ids => "are_valid_ids"
  | .f_is_valid_leaf => "is_valid_leaf"
  | .f_is_allowed_code => "is_allowed_code"
  | .f_is_text => "is_text"
  | .f_is_leaf_value => "is_leaf_value"
  | .f_is_name => "is_name"
  | .f_body_of => "body_of"
  | .f_with_body => "with_body"
  | .f_live_ids => "live_ids"
  | .f_is_valid_name => "is_valid_name"
  | .f_is_valid_part => "is_valid_part"
  | .f_is_valid_field => "is_valid_field"
  | .f_is_valid_body => "is_valid_body"
  | .f_is_described => "is_described"
  | .f_is_known => "is_known"
  | .f_part_depth => "part_depth"
  | .f_has_value => "has_value"
  | .f_least_depths => "least_depths"
  | .f_simple_case => "simple_case"
  | .f_part_count => "part_count"
  | .f_simple_count => "simple_count"
  | .f_simple_counts => "simple_counts"
  | .f_are_bounded => "are_bounded"
  | .f_is_valid => "is_valid"
  | .f_law_cell => "_law_cell"
  | .f_law_draws => "_law_draws"
  | .f_law_next => "_law_next"
  | .f_law_big => "_law_big"
  | .f_law_char => "_law_char"
  | .f_law_ids => "_law_ids"
  | .f_law_split => "_law_split"
  | .f_law_leaf => "_law_leaf"
  | .f_law_leaf_value => "_law_leaf_value"
  | .f_law_part => "_law_part"
  | .f_law_list_body => "_law_list_body"
  | .f_law_record_body => "_law_record_body"
  | .f_law_union_body => "_law_union_body"
  | .f_law_schema => "_law_schema"
  | .f_law_with_body => "_law_with_body"
  | .f_law_same => "_law_same"
  | .f_law => "law"
def c_META : D := (.tup [(.str "schema"), (.tup [(.tup [(.str "definition"), (.tup [(.str "record"), (.tup [(.tup [(.int 1), (.tup [(.str "text"), (.int 1), (.int 12)]), (.str "required"), .non]), (.tup [(.int 2), (.tup [(.str "number"), (.int 1), (.int 3)]), (.str "required"), .non]), (.tup [(.int 3), (.str "members"), (.str "required"), .non]), (.tup [(.int 4), (.str "ids"), (.str "required"), .non]), (.tup [(.int 5), (.tup [(.str "number"), (.int 0), (.int 99)]), (.str "optional"), .non]), (.tup [(.int 6), (.tup [(.str "number"), (.int 1), (.int 99)]), (.str "optional"), .non]), (.tup [(.int 7), (.tup [(.str "number"), (.int 0), (.int 1)]), (.str "optional"), .non])]), (.tup [])])]), (.tup [(.str "definitions"), (.tup [(.str "list"), (.str "definition"), (.int 1), (.int 8)])]), (.tup [(.str "ids"), (.tup [(.str "list"), (.tup [(.str "number"), (.int 1), (.int 99)]), (.int 0), (.int 99)])]), (.tup [(.str "leaf"), (.tup [(.str "record"), (.tup [(.tup [(.int 1), (.tup [(.str "number"), (.int 1), (.int 3)]), (.str "required"), .non]), (.tup [(.int 2), (.tup [(.str "number"), (.int (-1000000000000000)), (.int 1000000000000000)]), (.str "optional"), .non]), (.tup [(.int 3), (.tup [(.str "number"), (.int (-1000000000000000)), (.int 1000000000000000)]), (.str "optional"), .non]), (.tup [(.int 4), (.str "ids"), (.str "optional"), .non]), (.tup [(.int 5), (.str "ids"), (.str "optional"), .non]), (.tup [(.int 6), (.tup [(.str "number"), (.int 0), (.int 1)]), (.str "optional"), .non])]), (.tup [])])]), (.tup [(.str "member"), (.tup [(.str "record"), (.tup [(.tup [(.int 1), (.tup [(.str "number"), (.int 0), (.int 99)]), (.str "required"), .non]), (.tup [(.int 2), (.str "part"), (.str "required"), .non]), (.tup [(.int 3), (.tup [(.str "number"), (.int 1), (.int 3)]), (.str "optional"), .non]), (.tup [(.int 4), (.tup [(.str "number"), (.int (-1000000000000000)), (.int 1000000000000000)]), (.str "optional"), .non]), (.tup [(.int 5), (.tup [(.str "text"), (.int 0), (.int 40)]), (.str "optional"), .non])]), (.tup [])])]), (.tup [(.str "members"), (.tup [(.str "list"), (.str "member"), (.int 0), (.int 99)])]), (.tup [(.str "part"), (.tup [(.str "union"), (.tup [(.tup [(.int 1), (.tup [(.str "text"), (.int 1), (.int 12)])]), (.tup [(.int 2), (.str "leaf")])]), (.tup []), (.bl false)])]), (.tup [(.str "schema"), (.tup [(.str "record"), (.tup [(.tup [(.int 1), (.tup [(.str "text"), (.int 1), (.int 12)]), (.str "required"), .non]), (.tup [(.int 2), (.str "definitions"), (.str "required"), .non])]), (.tup [])])])])])
def cs : List (Str × D) := [("LARGEST_NUMBER", (.int 1000000000000000)), ("LONGEST_TEXT", (.int 40)), ("LARGEST_ID", (.int 99)), ("PERCENT", (.int 37)), ("MOST_DEFINITIONS", (.int 8)), ("LONGEST_NAME", (.int 12)), ("MOST_ITEMS", (.int 99)), ("MOST_SIMPLE_VALUES", (.int 100)), ("META", c_META)]
def l_are_ascending_ids_1 : Sxs F := (.cons (.iff (.not (.cm2 .lt .le (.var 1) (.var 2) (.con "LARGEST_ID" (.int 99)))) (.cons (.ret (.bl false)) .nil) .nil) (.cons (.set 1 (.var 2)) .nil))
@[simp] theorem ul_are_ascending_ids_1 {C : F → List D → Sto → R D} {env : Env} {s : Sto} : evSs C l_are_ascending_ids_1 env s = evSs C (.cons (.iff (.not (.cm2 .lt .le (.var 1) (.var 2) (.con "LARGEST_ID" (.int 99)))) (.cons (.ret (.bl false)) .nil) .nil) (.cons (.set 1 (.var 2)) .nil)) env s := nr rfl
def b_are_ascending_ids : Sxs F := (.cons (.set 1 (.int 0)) (.cons (.for_ [2] true (.ex (.var 0)) l_are_ascending_ids_1) (.cons (.ret (.bl true)) .nil)))
@[simp] theorem ub_are_ascending_ids {C : F → List D → Sto → R D} {env : Env} {s : Sto} : evSs C b_are_ascending_ids env s = evSs C (.cons (.set 1 (.int 0)) (.cons (.for_ [2] true (.ex (.var 0)) l_are_ascending_ids_1) (.cons (.ret (.bl true)) .nil))) env s := nr rfl
def l_have_common_1 : Sxs F := (.cons (.iff (.cmp .in_ (.var 2) (.var 1)) (.cons (.ret (.bl true)) .nil) .nil) .nil)
@[simp] theorem ul_have_common_1 {C : F → List D → Sto → R D} {env : Env} {s : Sto} : evSs C l_have_common_1 env s = evSs C (.cons (.iff (.cmp .in_ (.var 2) (.var 1)) (.cons (.ret (.bl true)) .nil) .nil) .nil) env s := nr rfl
def b_have_common : Sxs F := (.cons (.for_ [2] true (.ex (.var 0)) l_have_common_1) (.cons (.ret (.bl false)) .nil))
@[simp] theorem ub_have_common {C : F → List D → Sto → R D} {env : Env} {s : Sto} : evSs C b_have_common env s = evSs C (.cons (.for_ [2] true (.ex (.var 0)) l_have_common_1) (.cons (.ret (.bl false)) .nil)) env s := nr rfl
def b_are_valid_ids : Sxs F := (.cons (.iff (.or (.not (.call .f_are_ascending_ids (.cons (.var 0) .nil))) (.or (.not (.call .f_are_ascending_ids (.cons (.var 1) .nil))) (.call .f_have_common (.cons (.var 0) (.cons (.var 1) .nil))))) (.cons (.ret (.bl false)) .nil) .nil) (.cons (.ret (.or (.var 2) (.and (.cmp .eq (.blt .len (.cons (.var 1) .nil)) (.int 0)) (.cmp .gt (.blt .len (.cons (.var 0) .nil)) (.int 0))))) .nil))
@[simp] theorem ub_are_valid_ids {C : F → List D → Sto → R D} {env : Env} {s : Sto} : evSs C b_are_valid_ids env s = evSs C (.cons (.iff (.or (.not (.call .f_are_ascending_ids (.cons (.var 0) .nil))) (.or (.not (.call .f_are_ascending_ids (.cons (.var 1) .nil))) (.call .f_have_common (.cons (.var 0) (.cons (.var 1) .nil))))) (.cons (.ret (.bl false)) .nil) .nil) (.cons (.ret (.or (.var 2) (.and (.cmp .eq (.blt .len (.cons (.var 1) .nil)) (.int 0)) (.cmp .gt (.blt .len (.cons (.var 0) .nil)) (.int 0))))) .nil)) env s := nr rfl
def b_is_valid_leaf : Sxs F := (.cons (.iff (.cmp .eq (.idx (.var 0) (.int 0)) (.str "number")) (.cons (.ret (.cm3 .le .le .le (.neg (.con "LARGEST_NUMBER" (.int 1000000000000000))) (.idx (.var 0) (.int 1)) (.idx (.var 0) (.int 2)) (.con "LARGEST_NUMBER" (.int 1000000000000000)))) .nil) .nil) (.cons (.iff (.cmp .eq (.idx (.var 0) (.int 0)) (.str "text")) (.cons (.ret (.cm3 .le .le .le (.int 0) (.idx (.var 0) (.int 1)) (.idx (.var 0) (.int 2)) (.con "LONGEST_TEXT" (.int 40)))) .nil) .nil) (.cons (.ret (.call .f_are_valid_ids (.cons (.idx (.var 0) (.int 1)) (.cons (.idx (.var 0) (.int 2)) (.cons (.idx (.var 0) (.int 3)) .nil))))) .nil)))
@[simp] theorem ub_is_valid_leaf {C : F → List D → Sto → R D} {env : Env} {s : Sto} : evSs C b_is_valid_leaf env s = evSs C (.cons (.iff (.cmp .eq (.idx (.var 0) (.int 0)) (.str "number")) (.cons (.ret (.cm3 .le .le .le (.neg (.con "LARGEST_NUMBER" (.int 1000000000000000))) (.idx (.var 0) (.int 1)) (.idx (.var 0) (.int 2)) (.con "LARGEST_NUMBER" (.int 1000000000000000)))) .nil) .nil) (.cons (.iff (.cmp .eq (.idx (.var 0) (.int 0)) (.str "text")) (.cons (.ret (.cm3 .le .le .le (.int 0) (.idx (.var 0) (.int 1)) (.idx (.var 0) (.int 2)) (.con "LONGEST_TEXT" (.int 40)))) .nil) .nil) (.cons (.ret (.call .f_are_valid_ids (.cons (.idx (.var 0) (.int 1)) (.cons (.idx (.var 0) (.int 2)) (.cons (.idx (.var 0) (.int 3)) .nil))))) .nil))) env s := nr rfl
def b_is_allowed_code : Sxs F := (.cons (.ret (.and (.cm2 .le .le (.int 32) (.var 0) (.int 126)) (.cmp .ne (.var 0) (.con "PERCENT" (.int 37))))) .nil)
@[simp] theorem ub_is_allowed_code {C : F → List D → Sto → R D} {env : Env} {s : Sto} : evSs C b_is_allowed_code env s = evSs C (.cons (.ret (.and (.cm2 .le .le (.int 32) (.var 0) (.int 126)) (.cmp .ne (.var 0) (.con "PERCENT" (.int 37))))) .nil) env s := nr rfl
def l_is_text_1 : Sxs F := (.cons (.iff (.not (.call .f_is_allowed_code (.cons (.blt .ord (.cons (.var 1) .nil)) .nil))) (.cons (.ret (.bl false)) .nil) .nil) .nil)
@[simp] theorem ul_is_text_1 {C : F → List D → Sto → R D} {env : Env} {s : Sto} : evSs C l_is_text_1 env s = evSs C (.cons (.iff (.not (.call .f_is_allowed_code (.cons (.blt .ord (.cons (.var 1) .nil)) .nil))) (.cons (.ret (.bl false)) .nil) .nil) .nil) env s := nr rfl
def b_is_text : Sxs F := (.cons (.iff (.not (.isi (.var 0) .str)) (.cons (.ret (.bl false)) .nil) .nil) (.cons (.for_ [1] true (.ex (.var 0)) l_is_text_1) (.cons (.ret (.bl true)) .nil)))
@[simp] theorem ub_is_text {C : F → List D → Sto → R D} {env : Env} {s : Sto} : evSs C b_is_text env s = evSs C (.cons (.iff (.not (.isi (.var 0) .str)) (.cons (.ret (.bl false)) .nil) .nil) (.cons (.for_ [1] true (.ex (.var 0)) l_is_text_1) (.cons (.ret (.bl true)) .nil))) env s := nr rfl
def b_is_leaf_value : Sxs F := (.cons (.iff (.cmp .eq (.idx (.var 0) (.int 0)) (.str "text")) (.cons (.ret (.and (.call .f_is_text (.cons (.var 1) .nil)) (.cm2 .le .le (.idx (.var 0) (.int 1)) (.blt .len (.cons (.var 1) .nil)) (.idx (.var 0) (.int 2))))) .nil) .nil) (.cons (.iff (.not (.isi (.var 1) .int)) (.cons (.ret (.bl false)) .nil) .nil) (.cons (.iff (.cmp .eq (.idx (.var 0) (.int 0)) (.str "number")) (.cons (.ret (.cm2 .le .le (.idx (.var 0) (.int 1)) (.var 1) (.idx (.var 0) (.int 2)))) .nil) .nil) (.cons (.ret (.or (.cmp .in_ (.var 1) (.idx (.var 0) (.int 1))) (.and (.cmp .eq (.var 1) (.int 0)) (.idx (.var 0) (.int 3))))) .nil))))
@[simp] theorem ub_is_leaf_value {C : F → List D → Sto → R D} {env : Env} {s : Sto} : evSs C b_is_leaf_value env s = evSs C (.cons (.iff (.cmp .eq (.idx (.var 0) (.int 0)) (.str "text")) (.cons (.ret (.and (.call .f_is_text (.cons (.var 1) .nil)) (.cm2 .le .le (.idx (.var 0) (.int 1)) (.blt .len (.cons (.var 1) .nil)) (.idx (.var 0) (.int 2))))) .nil) .nil) (.cons (.iff (.not (.isi (.var 1) .int)) (.cons (.ret (.bl false)) .nil) .nil) (.cons (.iff (.cmp .eq (.idx (.var 0) (.int 0)) (.str "number")) (.cons (.ret (.cm2 .le .le (.idx (.var 0) (.int 1)) (.var 1) (.idx (.var 0) (.int 2)))) .nil) .nil) (.cons (.ret (.or (.cmp .in_ (.var 1) (.idx (.var 0) (.int 1))) (.and (.cmp .eq (.var 1) (.int 0)) (.idx (.var 0) (.int 3))))) .nil)))) env s := nr rfl
def b_is_name : Sxs F := (.cons (.ret (.isi (.var 0) .str)) .nil)
@[simp] theorem ub_is_name {C : F → List D → Sto → R D} {env : Env} {s : Sto} : evSs C b_is_name env s = evSs C (.cons (.ret (.isi (.var 0) .str)) .nil) env s := nr rfl
def l_body_of_1 : Sxs F := (.cons (.iff (.cmp .eq (.var 2) (.var 1)) (.cons (.ret (.var 3)) .nil) .nil) .nil)
@[simp] theorem ul_body_of_1 {C : F → List D → Sto → R D} {env : Env} {s : Sto} : evSs C l_body_of_1 env s = evSs C (.cons (.iff (.cmp .eq (.var 2) (.var 1)) (.cons (.ret (.var 3)) .nil) .nil) .nil) env s := nr rfl
def b_body_of : Sxs F := (.cons (.for_ [2, 3] false (.ex (.idx (.var 0) (.int 1))) l_body_of_1) (.cons (.ret .non) .nil))
@[simp] theorem ub_body_of {C : F → List D → Sto → R D} {env : Env} {s : Sto} : evSs C b_body_of env s = evSs C (.cons (.for_ [2, 3] false (.ex (.idx (.var 0) (.int 1))) l_body_of_1) (.cons (.ret .non) .nil)) env s := nr rfl
def l_with_body_1 : Sxs F := (.cons (.iff (.cmp .eq (.var 4) (.var 1)) (.cons (.expr (.met .append (.var 3) (.tup (.cons (.var 4) (.cons (.var 2) .nil))))) .nil) (.cons (.expr (.met .append (.var 3) (.tup (.cons (.var 4) (.cons (.var 5) .nil))))) .nil)) .nil)
@[simp] theorem ul_with_body_1 {C : F → List D → Sto → R D} {env : Env} {s : Sto} : evSs C l_with_body_1 env s = evSs C (.cons (.iff (.cmp .eq (.var 4) (.var 1)) (.cons (.expr (.met .append (.var 3) (.tup (.cons (.var 4) (.cons (.var 2) .nil))))) .nil) (.cons (.expr (.met .append (.var 3) (.tup (.cons (.var 4) (.cons (.var 5) .nil))))) .nil)) .nil) env s := nr rfl
def b_with_body : Sxs F := (.cons (.set 3 (.lst .nil)) (.cons (.for_ [4, 5] false (.ex (.idx (.var 0) (.int 1))) l_with_body_1) (.cons (.ret (.tup (.cons (.idx (.var 0) (.int 0)) (.cons (.blt .tuple (.cons (.var 3) .nil)) .nil)))) .nil)))
@[simp] theorem ub_with_body {C : F → List D → Sto → R D} {env : Env} {s : Sto} : evSs C b_with_body env s = evSs C (.cons (.set 3 (.lst .nil)) (.cons (.for_ [4, 5] false (.ex (.idx (.var 0) (.int 1))) l_with_body_1) (.cons (.ret (.tup (.cons (.idx (.var 0) (.int 0)) (.cons (.blt .tuple (.cons (.var 3) .nil)) .nil)))) .nil))) env s := nr rfl
def b_live_ids : Sxs F := (.cons (.iff (.cmp .eq (.idx (.var 0) (.int 0)) (.str "choice")) (.cons (.ret (.idx (.var 0) (.int 1))) .nil) .nil) (.cons (.ret (.blt .tuple (.cons (.lc [1] true (.idx (.var 1) (.int 0)) (.ex (.idx (.var 0) (.int 1))) .none) .nil))) .nil))
@[simp] theorem ub_live_ids {C : F → List D → Sto → R D} {env : Env} {s : Sto} : evSs C b_live_ids env s = evSs C (.cons (.iff (.cmp .eq (.idx (.var 0) (.int 0)) (.str "choice")) (.cons (.ret (.idx (.var 0) (.int 1))) .nil) .nil) (.cons (.ret (.blt .tuple (.cons (.lc [1] true (.idx (.var 1) (.int 0)) (.ex (.idx (.var 0) (.int 1))) .none) .nil))) .nil)) env s := nr rfl
def l_is_valid_name_1 : Sxs F := (.cons (.iff (.not (.cm2 .le .le (.str "a") (.var 1) (.str "z"))) (.cons (.ret (.bl false)) .nil) .nil) .nil)
@[simp] theorem ul_is_valid_name_1 {C : F → List D → Sto → R D} {env : Env} {s : Sto} : evSs C l_is_valid_name_1 env s = evSs C (.cons (.iff (.not (.cm2 .le .le (.str "a") (.var 1) (.str "z"))) (.cons (.ret (.bl false)) .nil) .nil) .nil) env s := nr rfl
def b_is_valid_name : Sxs F := (.cons (.for_ [1] true (.ex (.var 0)) l_is_valid_name_1) (.cons (.ret (.cm2 .le .le (.int 1) (.blt .len (.cons (.var 0) .nil)) (.con "LONGEST_NAME" (.int 12)))) .nil))
@[simp] theorem ub_is_valid_name {C : F → List D → Sto → R D} {env : Env} {s : Sto} : evSs C b_is_valid_name env s = evSs C (.cons (.for_ [1] true (.ex (.var 0)) l_is_valid_name_1) (.cons (.ret (.cm2 .le .le (.int 1) (.blt .len (.cons (.var 0) .nil)) (.con "LONGEST_NAME" (.int 12)))) .nil)) env s := nr rfl
def b_is_valid_part : Sxs F := (.cons (.iff (.call .f_is_name (.cons (.var 1) .nil)) (.cons (.ret (.cmp .in_ (.var 1) (.var 0))) .nil) .nil) (.cons (.ret (.call .f_is_valid_leaf (.cons (.var 1) .nil))) .nil))
@[simp] theorem ub_is_valid_part {C : F → List D → Sto → R D} {env : Env} {s : Sto} : evSs C b_is_valid_part env s = evSs C (.cons (.iff (.call .f_is_name (.cons (.var 1) .nil)) (.cons (.ret (.cmp .in_ (.var 1) (.var 0))) .nil) .nil) (.cons (.ret (.call .f_is_valid_leaf (.cons (.var 1) .nil))) .nil)) env s := nr rfl
def b_is_valid_field : Sxs F := (.cons (.setT [2, 3, 4, 5] (.var 1)) (.cons (.iff (.not (.call .f_is_valid_part (.cons (.var 0) (.cons (.var 3) .nil)))) (.cons (.ret (.bl false)) .nil) .nil) (.cons (.iff (.cmp .eq (.var 4) (.str "default")) (.cons (.ret (.and (.not (.call .f_is_name (.cons (.var 3) .nil))) (.and (.cmp .ne (.idx (.var 3) (.int 0)) (.str "choice")) (.call .f_is_leaf_value (.cons (.var 3) (.cons (.var 5) .nil)))))) .nil) .nil) (.cons (.ret (.and (.cmp .in_ (.var 4) (.tup (.cons (.str "required") (.cons (.str "optional") .nil)))) (.cmp .is (.var 5) .non))) .nil))))
@[simp] theorem ub_is_valid_field {C : F → List D → Sto → R D} {env : Env} {s : Sto} : evSs C b_is_valid_field env s = evSs C (.cons (.setT [2, 3, 4, 5] (.var 1)) (.cons (.iff (.not (.call .f_is_valid_part (.cons (.var 0) (.cons (.var 3) .nil)))) (.cons (.ret (.bl false)) .nil) .nil) (.cons (.iff (.cmp .eq (.var 4) (.str "default")) (.cons (.ret (.and (.not (.call .f_is_name (.cons (.var 3) .nil))) (.and (.cmp .ne (.idx (.var 3) (.int 0)) (.str "choice")) (.call .f_is_leaf_value (.cons (.var 3) (.cons (.var 5) .nil)))))) .nil) .nil) (.cons (.ret (.and (.cmp .in_ (.var 4) (.tup (.cons (.str "required") (.cons (.str "optional") .nil)))) (.cmp .is (.var 5) .non))) .nil)))) env s := nr rfl
def l_is_valid_body_1 : Sxs F := (.cons (.iff (.not (.call .f_is_valid_part (.cons (.var 0) (.cons (.idx (.var 4) (.int 1)) .nil)))) (.cons (.ret (.bl false)) .nil) .nil) .nil)
@[simp] theorem ul_is_valid_body_1 {C : F → List D → Sto → R D} {env : Env} {s : Sto} : evSs C l_is_valid_body_1 env s = evSs C (.cons (.iff (.not (.call .f_is_valid_part (.cons (.var 0) (.cons (.idx (.var 4) (.int 1)) .nil)))) (.cons (.ret (.bl false)) .nil) .nil) .nil) env s := nr rfl
def l_is_valid_body_2 : Sxs F := (.cons (.iff (.not (.call .f_is_valid_field (.cons (.var 0) (.cons (.var 3) .nil)))) (.cons (.ret (.bl false)) .nil) .nil) .nil)
@[simp] theorem ul_is_valid_body_2 {C : F → List D → Sto → R D} {env : Env} {s : Sto} : evSs C l_is_valid_body_2 env s = evSs C (.cons (.iff (.not (.call .f_is_valid_field (.cons (.var 0) (.cons (.var 3) .nil)))) (.cons (.ret (.bl false)) .nil) .nil) .nil) env s := nr rfl
def b_is_valid_body : Sxs F := (.cons (.iff (.cmp .eq (.idx (.var 1) (.int 0)) (.str "list")) (.cons (.ret (.and (.call .f_is_valid_part (.cons (.var 0) (.cons (.idx (.var 1) (.int 1)) .nil))) (.and (.cm3 .le .le .le (.int 0) (.idx (.var 1) (.int 2)) (.idx (.var 1) (.int 3)) (.con "MOST_ITEMS" (.int 99))) (.cmp .ge (.idx (.var 1) (.int 3)) (.int 1))))) .nil) .nil) (.cons (.set 2 (.call .f_live_ids (.cons (.var 1) .nil))) (.cons (.iff (.cmp .eq (.idx (.var 1) (.int 0)) (.str "record")) (.cons (.for_ [3] true (.ex (.idx (.var 1) (.int 1))) l_is_valid_body_2) (.cons (.ret (.and (.call .f_are_ascending_ids (.cons (.var 2) .nil)) (.and (.call .f_are_ascending_ids (.cons (.idx (.var 1) (.int 2)) .nil)) (.not (.call .f_have_common (.cons (.var 2) (.cons (.idx (.var 1) (.int 2)) .nil))))))) .nil)) .nil) (.cons (.for_ [4] true (.ex (.idx (.var 1) (.int 1))) l_is_valid_body_1) (.cons (.ret (.call .f_are_valid_ids (.cons (.var 2) (.cons (.idx (.var 1) (.int 2)) (.cons (.idx (.var 1) (.int 3)) .nil))))) .nil)))))
@[simp] theorem ub_is_valid_body {C : F → List D → Sto → R D} {env : Env} {s : Sto} : evSs C b_is_valid_body env s = evSs C (.cons (.iff (.cmp .eq (.idx (.var 1) (.int 0)) (.str "list")) (.cons (.ret (.and (.call .f_is_valid_part (.cons (.var 0) (.cons (.idx (.var 1) (.int 1)) .nil))) (.and (.cm3 .le .le .le (.int 0) (.idx (.var 1) (.int 2)) (.idx (.var 1) (.int 3)) (.con "MOST_ITEMS" (.int 99))) (.cmp .ge (.idx (.var 1) (.int 3)) (.int 1))))) .nil) .nil) (.cons (.set 2 (.call .f_live_ids (.cons (.var 1) .nil))) (.cons (.iff (.cmp .eq (.idx (.var 1) (.int 0)) (.str "record")) (.cons (.for_ [3] true (.ex (.idx (.var 1) (.int 1))) l_is_valid_body_2) (.cons (.ret (.and (.call .f_are_ascending_ids (.cons (.var 2) .nil)) (.and (.call .f_are_ascending_ids (.cons (.idx (.var 1) (.int 2)) .nil)) (.not (.call .f_have_common (.cons (.var 2) (.cons (.idx (.var 1) (.int 2)) .nil))))))) .nil)) .nil) (.cons (.for_ [4] true (.ex (.idx (.var 1) (.int 1))) l_is_valid_body_1) (.cons (.ret (.call .f_are_valid_ids (.cons (.var 2) (.cons (.idx (.var 1) (.int 2)) (.cons (.idx (.var 1) (.int 3)) .nil))))) .nil))))) env s := nr rfl
def l_is_described_1 : Sxs F := (.cons (.iff (.or (.not (.call .f_is_valid_name (.cons (.var 2) .nil))) (.not (.call .f_is_valid_body (.cons (.var 1) (.cons (.var 4) .nil))))) (.cons (.ret (.bl false)) .nil) .nil) .nil)
@[simp] theorem ul_is_described_1 {C : F → List D → Sto → R D} {env : Env} {s : Sto} : evSs C l_is_described_1 env s = evSs C (.cons (.iff (.or (.not (.call .f_is_valid_name (.cons (.var 2) .nil))) (.not (.call .f_is_valid_body (.cons (.var 1) (.cons (.var 4) .nil))))) (.cons (.ret (.bl false)) .nil) .nil) .nil) env s := nr rfl
def b_is_described : Sxs F := (.cons (.set 1 (.lc [2, 3] false (.var 2) (.ex (.idx (.var 0) (.int 1))) .none)) (.cons (.iff (.or (.not (.cm2 .le .le (.int 1) (.blt .len (.cons (.var 1) .nil)) (.con "MOST_DEFINITIONS" (.int 8)))) (.or (.cmp .ne (.var 1) (.sset (.var 1))) (.cmp .notin (.idx (.var 0) (.int 0)) (.var 1)))) (.cons (.ret (.bl false)) .nil) .nil) (.cons (.for_ [2, 4] false (.ex (.idx (.var 0) (.int 1))) l_is_described_1) (.cons (.ret (.bl true)) .nil))))
@[simp] theorem ub_is_described {C : F → List D → Sto → R D} {env : Env} {s : Sto} : evSs C b_is_described env s = evSs C (.cons (.set 1 (.lc [2, 3] false (.var 2) (.ex (.idx (.var 0) (.int 1))) .none)) (.cons (.iff (.or (.not (.cm2 .le .le (.int 1) (.blt .len (.cons (.var 1) .nil)) (.con "MOST_DEFINITIONS" (.int 8)))) (.or (.cmp .ne (.var 1) (.sset (.var 1))) (.cmp .notin (.idx (.var 0) (.int 0)) (.var 1)))) (.cons (.ret (.bl false)) .nil) .nil) (.cons (.for_ [2, 4] false (.ex (.idx (.var 0) (.int 1))) l_is_described_1) (.cons (.ret (.bl true)) .nil)))) env s := nr rfl
def b_is_known : Sxs F := (.cons (.ret (.or (.not (.call .f_is_name (.cons (.var 0) .nil))) (.cmp .in_ (.var 0) (.var 1)))) .nil)
@[simp] theorem ub_is_known {C : F → List D → Sto → R D} {env : Env} {s : Sto} : evSs C b_is_known env s = evSs C (.cons (.ret (.or (.not (.call .f_is_name (.cons (.var 0) .nil))) (.cmp .in_ (.var 0) (.var 1)))) .nil) env s := nr rfl
def b_part_depth : Sxs F := (.cons (.iff (.call .f_is_name (.cons (.var 0) .nil)) (.cons (.ret (.idx (.var 1) (.var 0))) .nil) .nil) (.cons (.ret (.int 0)) .nil))
@[simp] theorem ub_part_depth {C : F → List D → Sto → R D} {env : Env} {s : Sto} : evSs C b_part_depth env s = evSs C (.cons (.iff (.call .f_is_name (.cons (.var 0) .nil)) (.cons (.ret (.idx (.var 1) (.var 0))) .nil) .nil) (.cons (.ret (.int 0)) .nil)) env s := nr rfl
def l_has_value_1 : Sxs F := (.cons (.iff (.call .f_is_known (.cons (.var 3) (.cons (.var 1) .nil))) (.cons (.ret (.bl true)) .nil) .nil) .nil)
@[simp] theorem ul_has_value_1 {C : F → List D → Sto → R D} {env : Env} {s : Sto} : evSs C l_has_value_1 env s = evSs C (.cons (.iff (.call .f_is_known (.cons (.var 3) (.cons (.var 1) .nil))) (.cons (.ret (.bl true)) .nil) .nil) .nil) env s := nr rfl
def l_has_value_2 : Sxs F := (.cons (.iff (.and (.cmp .eq (.var 4) (.str "required")) (.not (.call .f_is_known (.cons (.var 3) (.cons (.var 1) .nil))))) (.cons (.ret (.bl false)) .nil) .nil) .nil)
@[simp] theorem ul_has_value_2 {C : F → List D → Sto → R D} {env : Env} {s : Sto} : evSs C l_has_value_2 env s = evSs C (.cons (.iff (.and (.cmp .eq (.var 4) (.str "required")) (.not (.call .f_is_known (.cons (.var 3) (.cons (.var 1) .nil))))) (.cons (.ret (.bl false)) .nil) .nil) .nil) env s := nr rfl
def b_has_value : Sxs F := (.cons (.iff (.cmp .eq (.idx (.var 0) (.int 0)) (.str "list")) (.cons (.ret (.or (.cmp .eq (.idx (.var 0) (.int 2)) (.int 0)) (.call .f_is_known (.cons (.idx (.var 0) (.int 1)) (.cons (.var 1) .nil))))) .nil) .nil) (.cons (.iff (.cmp .eq (.idx (.var 0) (.int 0)) (.str "record")) (.cons (.for_ [2, 3, 4, 2] false (.ex (.idx (.var 0) (.int 1))) l_has_value_2) (.cons (.ret (.bl true)) .nil)) .nil) (.cons (.iff (.idx (.var 0) (.int 3)) (.cons (.ret (.bl true)) .nil) .nil) (.cons (.for_ [2, 3] false (.ex (.idx (.var 0) (.int 1))) l_has_value_1) (.cons (.ret (.bl false)) .nil)))))
@[simp] theorem ub_has_value {C : F → List D → Sto → R D} {env : Env} {s : Sto} : evSs C b_has_value env s = evSs C (.cons (.iff (.cmp .eq (.idx (.var 0) (.int 0)) (.str "list")) (.cons (.ret (.or (.cmp .eq (.idx (.var 0) (.int 2)) (.int 0)) (.call .f_is_known (.cons (.idx (.var 0) (.int 1)) (.cons (.var 1) .nil))))) .nil) .nil) (.cons (.iff (.cmp .eq (.idx (.var 0) (.int 0)) (.str "record")) (.cons (.for_ [2, 3, 4, 2] false (.ex (.idx (.var 0) (.int 1))) l_has_value_2) (.cons (.ret (.bl true)) .nil)) .nil) (.cons (.iff (.idx (.var 0) (.int 3)) (.cons (.ret (.bl true)) .nil) .nil) (.cons (.for_ [2, 3] false (.ex (.idx (.var 0) (.int 1))) l_has_value_1) (.cons (.ret (.bl false)) .nil))))) env s := nr rfl
def l_least_depths_1 : Sxs F := (.cons (.setI (.var 1) (.var 4) (.var 2)) .nil)
@[simp] theorem ul_least_depths_1 {C : F → List D → Sto → R D} {env : Env} {s : Sto} : evSs C l_least_depths_1 env s = evSs C (.cons (.setI (.var 1) (.var 4) (.var 2)) .nil) env s := nr rfl
def l_least_depths_2 : Sxs F := (.cons (.set 3 (.lc [4, 5] false (.var 4) (.ex (.idx (.var 0) (.int 1))) (.some (.and (.cmp .notin (.var 4) (.var 1)) (.call .f_has_value (.cons (.var 5) (.cons (.var 1) .nil))))))) (.cons (.for_ [4] true (.ex (.var 3)) l_least_depths_1) .nil))
@[simp] theorem ul_least_depths_2 {C : F → List D → Sto → R D} {env : Env} {s : Sto} : evSs C l_least_depths_2 env s = evSs C (.cons (.set 3 (.lc [4, 5] false (.var 4) (.ex (.idx (.var 0) (.int 1))) (.some (.and (.cmp .notin (.var 4) (.var 1)) (.call .f_has_value (.cons (.var 5) (.cons (.var 1) .nil))))))) (.cons (.for_ [4] true (.ex (.var 3)) l_least_depths_1) .nil)) env s := nr rfl
def b_least_depths : Sxs F := (.cons (.set 1 .dnew) (.cons (.for_ [2] true (.rng2 (.int 1) (.bin .add (.blt .len (.cons (.idx (.var 0) (.int 1)) .nil)) (.int 1))) l_least_depths_2) (.cons (.ret (.var 1)) .nil)))
@[simp] theorem ub_least_depths {C : F → List D → Sto → R D} {env : Env} {s : Sto} : evSs C b_least_depths env s = evSs C (.cons (.set 1 .dnew) (.cons (.for_ [2] true (.rng2 (.int 1) (.bin .add (.blt .len (.cons (.idx (.var 0) (.int 1)) .nil)) (.int 1))) l_least_depths_2) (.cons (.ret (.var 1)) .nil))) env s := nr rfl
def l_simple_case_1 : Sxs F := (.cons (.iff (.call .f_is_known (.cons (.idx (.var 3) (.int 1)) (.cons (.var 1) .nil))) (.cons (.iff (.or (.cmp .is (.var 2) .non) (.cmp .lt (.call .f_part_depth (.cons (.idx (.var 3) (.int 1)) (.cons (.var 1) .nil))) (.call .f_part_depth (.cons (.idx (.var 2) (.int 1)) (.cons (.var 1) .nil))))) (.cons (.set 2 (.var 3)) .nil) .nil) .nil) .nil) .nil)
@[simp] theorem ul_simple_case_1 {C : F → List D → Sto → R D} {env : Env} {s : Sto} : evSs C l_simple_case_1 env s = evSs C (.cons (.iff (.call .f_is_known (.cons (.idx (.var 3) (.int 1)) (.cons (.var 1) .nil))) (.cons (.iff (.or (.cmp .is (.var 2) .non) (.cmp .lt (.call .f_part_depth (.cons (.idx (.var 3) (.int 1)) (.cons (.var 1) .nil))) (.call .f_part_depth (.cons (.idx (.var 2) (.int 1)) (.cons (.var 1) .nil))))) (.cons (.set 2 (.var 3)) .nil) .nil) .nil) .nil) .nil) env s := nr rfl
def b_simple_case : Sxs F := (.cons (.set 2 .non) (.cons (.for_ [3] true (.ex (.idx (.var 0) (.int 1))) l_simple_case_1) (.cons (.ret (.var 2)) .nil)))
@[simp] theorem ub_simple_case {C : F → List D → Sto → R D} {env : Env} {s : Sto} : evSs C b_simple_case env s = evSs C (.cons (.set 2 .non) (.cons (.for_ [3] true (.ex (.idx (.var 0) (.int 1))) l_simple_case_1) (.cons (.ret (.var 2)) .nil))) env s := nr rfl
def b_part_count : Sxs F := (.cons (.iff (.call .f_is_name (.cons (.var 0) .nil)) (.cons (.ret (.idx (.var 1) (.var 0))) .nil) .nil) (.cons (.ret (.int 1)) .nil))
@[simp] theorem ub_part_count {C : F → List D → Sto → R D} {env : Env} {s : Sto} : evSs C b_part_count env s = evSs C (.cons (.iff (.call .f_is_name (.cons (.var 0) .nil)) (.cons (.ret (.idx (.var 1) (.var 0))) .nil) .nil) (.cons (.ret (.int 1)) .nil)) env s := nr rfl
def l_simple_count_1 : Sxs F := (.cons (.iff (.cmp .ne (.var 6) (.str "optional")) (.cons (.set 3 (.bin .add (.var 3) (.call .f_part_count (.cons (.var 5) (.cons (.var 2) .nil))))) .nil) .nil) .nil)
@[simp] theorem ul_simple_count_1 {C : F → List D → Sto → R D} {env : Env} {s : Sto} : evSs C l_simple_count_1 env s = evSs C (.cons (.iff (.cmp .ne (.var 6) (.str "optional")) (.cons (.set 3 (.bin .add (.var 3) (.call .f_part_count (.cons (.var 5) (.cons (.var 2) .nil))))) .nil) .nil) .nil) env s := nr rfl
def b_simple_count : Sxs F := (.cons (.iff (.cmp .eq (.idx (.var 0) (.int 0)) (.str "list")) (.cons (.iff (.cmp .eq (.idx (.var 0) (.int 2)) (.int 0)) (.cons (.ret (.int 1)) .nil) .nil) (.cons (.ret (.bin .add (.int 1) (.bin .mul (.idx (.var 0) (.int 2)) (.call .f_part_count (.cons (.idx (.var 0) (.int 1)) (.cons (.var 2) .nil)))))) .nil)) .nil) (.cons (.iff (.cmp .eq (.idx (.var 0) (.int 0)) (.str "record")) (.cons (.set 3 (.int 1)) (.cons (.for_ [4, 5, 6, 4] false (.ex (.idx (.var 0) (.int 1))) l_simple_count_1) (.cons (.ret (.var 3)) .nil))) .nil) (.cons (.iff (.idx (.var 0) (.int 3)) (.cons (.ret (.int 1)) .nil) .nil) (.cons (.ret (.bin .add (.int 1) (.call .f_part_count (.cons (.idx (.call .f_simple_case (.cons (.var 0) (.cons (.var 1) .nil))) (.int 1)) (.cons (.var 2) .nil))))) .nil))))
@[simp] theorem ub_simple_count {C : F → List D → Sto → R D} {env : Env} {s : Sto} : evSs C b_simple_count env s = evSs C (.cons (.iff (.cmp .eq (.idx (.var 0) (.int 0)) (.str "list")) (.cons (.iff (.cmp .eq (.idx (.var 0) (.int 2)) (.int 0)) (.cons (.ret (.int 1)) .nil) .nil) (.cons (.ret (.bin .add (.int 1) (.bin .mul (.idx (.var 0) (.int 2)) (.call .f_part_count (.cons (.idx (.var 0) (.int 1)) (.cons (.var 2) .nil)))))) .nil)) .nil) (.cons (.iff (.cmp .eq (.idx (.var 0) (.int 0)) (.str "record")) (.cons (.set 3 (.int 1)) (.cons (.for_ [4, 5, 6, 4] false (.ex (.idx (.var 0) (.int 1))) l_simple_count_1) (.cons (.ret (.var 3)) .nil))) .nil) (.cons (.iff (.idx (.var 0) (.int 3)) (.cons (.ret (.int 1)) .nil) .nil) (.cons (.ret (.bin .add (.int 1) (.call .f_part_count (.cons (.idx (.call .f_simple_case (.cons (.var 0) (.cons (.var 1) .nil))) (.int 1)) (.cons (.var 2) .nil))))) .nil)))) env s := nr rfl
def l_simple_counts_1 : Sxs F := (.cons (.iff (.cmp .eq (.idx (.var 1) (.var 4)) (.var 3)) (.cons (.setI (.var 2) (.var 4) (.call .f_simple_count (.cons (.var 5) (.cons (.var 1) (.cons (.var 2) .nil))))) .nil) .nil) .nil)
@[simp] theorem ul_simple_counts_1 {C : F → List D → Sto → R D} {env : Env} {s : Sto} : evSs C l_simple_counts_1 env s = evSs C (.cons (.iff (.cmp .eq (.idx (.var 1) (.var 4)) (.var 3)) (.cons (.setI (.var 2) (.var 4) (.call .f_simple_count (.cons (.var 5) (.cons (.var 1) (.cons (.var 2) .nil))))) .nil) .nil) .nil) env s := nr rfl
def l_simple_counts_2 : Sxs F := (.cons (.for_ [4, 5] false (.ex (.idx (.var 0) (.int 1))) l_simple_counts_1) .nil)
@[simp] theorem ul_simple_counts_2 {C : F → List D → Sto → R D} {env : Env} {s : Sto} : evSs C l_simple_counts_2 env s = evSs C (.cons (.for_ [4, 5] false (.ex (.idx (.var 0) (.int 1))) l_simple_counts_1) .nil) env s := nr rfl
def b_simple_counts : Sxs F := (.cons (.set 2 .dnew) (.cons (.for_ [3] true (.rng2 (.int 1) (.bin .add (.blt .len (.cons (.idx (.var 0) (.int 1)) .nil)) (.int 1))) l_simple_counts_2) (.cons (.ret (.var 2)) .nil)))
@[simp] theorem ub_simple_counts {C : F → List D → Sto → R D} {env : Env} {s : Sto} : evSs C b_simple_counts env s = evSs C (.cons (.set 2 .dnew) (.cons (.for_ [3] true (.rng2 (.int 1) (.bin .add (.blt .len (.cons (.idx (.var 0) (.int 1)) .nil)) (.int 1))) l_simple_counts_2) (.cons (.ret (.var 2)) .nil))) env s := nr rfl
def l_are_bounded_1 : Sxs F := (.cons (.iff (.cmp .gt (.idx (.var 2) (.var 3)) (.con "MOST_SIMPLE_VALUES" (.int 100))) (.cons (.ret (.bl false)) .nil) .nil) .nil)
@[simp] theorem ul_are_bounded_1 {C : F → List D → Sto → R D} {env : Env} {s : Sto} : evSs C l_are_bounded_1 env s = evSs C (.cons (.iff (.cmp .gt (.idx (.var 2) (.var 3)) (.con "MOST_SIMPLE_VALUES" (.int 100))) (.cons (.ret (.bl false)) .nil) .nil) .nil) env s := nr rfl
def b_are_bounded : Sxs F := (.cons (.set 1 (.call .f_least_depths (.cons (.var 0) .nil))) (.cons (.iff (.cmp .lt (.blt .len (.cons (.var 1) .nil)) (.blt .len (.cons (.idx (.var 0) (.int 1)) .nil))) (.cons (.ret (.bl false)) .nil) .nil) (.cons (.set 2 (.call .f_simple_counts (.cons (.var 0) (.cons (.var 1) .nil)))) (.cons (.forK 3 2 l_are_bounded_1) (.cons (.ret (.bl true)) .nil)))))
@[simp] theorem ub_are_bounded {C : F → List D → Sto → R D} {env : Env} {s : Sto} : evSs C b_are_bounded env s = evSs C (.cons (.set 1 (.call .f_least_depths (.cons (.var 0) .nil))) (.cons (.iff (.cmp .lt (.blt .len (.cons (.var 1) .nil)) (.blt .len (.cons (.idx (.var 0) (.int 1)) .nil))) (.cons (.ret (.bl false)) .nil) .nil) (.cons (.set 2 (.call .f_simple_counts (.cons (.var 0) (.cons (.var 1) .nil)))) (.cons (.forK 3 2 l_are_bounded_1) (.cons (.ret (.bl true)) .nil))))) env s := nr rfl
def b_is_valid : Sxs F := (.cons (.ret (.and (.call .f_is_described (.cons (.var 0) .nil)) (.call .f_are_bounded (.cons (.var 0) .nil)))) .nil)
@[simp] theorem ub_is_valid {C : F → List D → Sto → R D} {env : Env} {s : Sto} : evSs C b_is_valid env s = evSs C (.cons (.ret (.and (.call .f_is_described (.cons (.var 0) .nil)) (.call .f_are_bounded (.cons (.var 0) .nil)))) .nil) env s := nr rfl
def b_law_cell : Sxs F := (.cons (.iff (.cmp .lt (.var 1) (.blt .len (.cons (.var 0) .nil))) (.cons (.ret (.idx (.var 0) (.var 1))) .nil) .nil) (.cons (.ret (.int 0)) .nil))
@[simp] theorem ub_law_cell {C : F → List D → Sto → R D} {env : Env} {s : Sto} : evSs C b_law_cell env s = evSs C (.cons (.iff (.cmp .lt (.var 1) (.blt .len (.cons (.var 0) .nil))) (.cons (.ret (.idx (.var 0) (.var 1))) .nil) .nil) (.cons (.ret (.int 0)) .nil)) env s := nr rfl
def l_law_draws_1 : Sxs F := (.cons (.iff (.and (.var 4) (.cmp .gt (.var 2) (.int 0))) (.cons (.expr (.met .append (.var 1) (.bin .mod (.blt .int_ (.cons (.var 2) .nil)) (.int 1000)))) (.cons (.set 2 (.bin .fdiv (.var 2) (.int 1000))) .nil)) (.cons (.set 3 (.bin .mod (.blt .int_ (.cons (.bin .add (.bin .mul (.var 3) (.int 48271)) (.int 7919)) .nil)) (.int 2147483647))) (.cons (.expr (.met .append (.var 1) (.bin .fdiv (.var 3) (.int 65536)))) .nil))) .nil)
@[simp] theorem ul_law_draws_1 {C : F → List D → Sto → R D} {env : Env} {s : Sto} : evSs C l_law_draws_1 env s = evSs C (.cons (.iff (.and (.var 4) (.cmp .gt (.var 2) (.int 0))) (.cons (.expr (.met .append (.var 1) (.bin .mod (.blt .int_ (.cons (.var 2) .nil)) (.int 1000)))) (.cons (.set 2 (.bin .fdiv (.var 2) (.int 1000))) .nil)) (.cons (.set 3 (.bin .mod (.blt .int_ (.cons (.bin .add (.bin .mul (.var 3) (.int 48271)) (.int 7919)) .nil)) (.int 2147483647))) (.cons (.expr (.met .append (.var 1) (.bin .fdiv (.var 3) (.int 65536)))) .nil))) .nil) env s := nr rfl
def b_law_draws : Sxs F := (.cons (.set 1 (.lst .nil)) (.cons (.set 2 (.blt .abs (.cons (.var 0) .nil))) (.cons (.set 3 (.bin .mod (.blt .int_ (.cons (.var 2) .nil)) (.int 2147483647))) (.cons (.set 4 (.cmp .ge (.var 2) (.bin .pow (.int 10) (.int 18)))) (.cons (.for_ [5] true (.rng1 (.int 160)) l_law_draws_1) (.cons (.ret (.lst (.cons (.int 0) (.cons (.var 1) .nil)))) .nil))))))
@[simp] theorem ub_law_draws {C : F → List D → Sto → R D} {env : Env} {s : Sto} : evSs C b_law_draws env s = evSs C (.cons (.set 1 (.lst .nil)) (.cons (.set 2 (.blt .abs (.cons (.var 0) .nil))) (.cons (.set 3 (.bin .mod (.blt .int_ (.cons (.var 2) .nil)) (.int 2147483647))) (.cons (.set 4 (.cmp .ge (.var 2) (.bin .pow (.int 10) (.int 18)))) (.cons (.for_ [5] true (.rng1 (.int 160)) l_law_draws_1) (.cons (.ret (.lst (.cons (.int 0) (.cons (.var 1) .nil)))) .nil)))))) env s := nr rfl
def b_law_next : Sxs F := (.cons (.set 2 (.idx (.var 0) (.int 0))) (.cons (.setI (.var 0) (.int 0) (.bin .add (.var 2) (.int 1))) (.cons (.set 3 (.idx (.var 0) (.int 1))) (.cons (.iff (.cmp .ge (.var 2) (.blt .len (.cons (.var 3) .nil))) (.cons (.ret (.int 0)) .nil) .nil) (.cons (.ret (.bin .mod (.blt .int_ (.cons (.idx (.var 3) (.var 2)) .nil)) (.var 1))) .nil)))))
@[simp] theorem ub_law_next {C : F → List D → Sto → R D} {env : Env} {s : Sto} : evSs C b_law_next env s = evSs C (.cons (.set 2 (.idx (.var 0) (.int 0))) (.cons (.setI (.var 0) (.int 0) (.bin .add (.var 2) (.int 1))) (.cons (.set 3 (.idx (.var 0) (.int 1))) (.cons (.iff (.cmp .ge (.var 2) (.blt .len (.cons (.var 3) .nil))) (.cons (.ret (.int 0)) .nil) .nil) (.cons (.ret (.bin .mod (.blt .int_ (.cons (.idx (.var 3) (.var 2)) .nil)) (.var 1))) .nil))))) env s := nr rfl
def l_law_big_1 : Sxs F := (.cons (.set 1 (.bin .add (.bin .mul (.var 1) (.int 1000)) (.call .f_law_next (.cons (.var 0) (.cons (.int 1000) .nil))))) .nil)
@[simp] theorem ul_law_big_1 {C : F → List D → Sto → R D} {env : Env} {s : Sto} : evSs C l_law_big_1 env s = evSs C (.cons (.set 1 (.bin .add (.bin .mul (.var 1) (.int 1000)) (.call .f_law_next (.cons (.var 0) (.cons (.int 1000) .nil))))) .nil) env s := nr rfl
def b_law_big : Sxs F := (.cons (.set 1 (.int 0)) (.cons (.for_ [2] true (.rng1 (.int 6)) l_law_big_1) (.cons (.ret (.var 1)) .nil)))
@[simp] theorem ub_law_big {C : F → List D → Sto → R D} {env : Env} {s : Sto} : evSs C b_law_big env s = evSs C (.cons (.set 1 (.int 0)) (.cons (.for_ [2] true (.rng1 (.int 6)) l_law_big_1) (.cons (.ret (.var 1)) .nil))) env s := nr rfl
def b_law_char : Sxs F := (.cons (.set 1 (.str " !\"#$&'()*+,-./0123456789:;<=>?@ABCDEFGHIJKLMNOPQRSTUVWXYZ[\\]^_`")) (.cons (.set 1 (.bin .add (.var 1) (.str "abcdefghijklmnopqrstuvwxyz{|}~"))) (.cons (.ret (.idx (.var 1) (.bin .mod (.blt .int_ (.cons (.var 0) .nil)) (.int 94)))) .nil)))
@[simp] theorem ub_law_char {C : F → List D → Sto → R D} {env : Env} {s : Sto} : evSs C b_law_char env s = evSs C (.cons (.set 1 (.str " !\"#$&'()*+,-./0123456789:;<=>?@ABCDEFGHIJKLMNOPQRSTUVWXYZ[\\]^_`")) (.cons (.set 1 (.bin .add (.var 1) (.str "abcdefghijklmnopqrstuvwxyz{|}~"))) (.cons (.ret (.idx (.var 1) (.bin .mod (.blt .int_ (.cons (.var 0) .nil)) (.int 94)))) .nil))) env s := nr rfl
def l_law_ids_1 : Sxs F := (.cons (.set 3 (.bin .add (.bin .add (.var 3) (.int 1)) (.call .f_law_next (.cons (.var 0) (.cons (.int 4) .nil))))) (.cons (.expr (.met .append (.var 2) (.var 3))) .nil))
@[simp] theorem ul_law_ids_1 {C : F → List D → Sto → R D} {env : Env} {s : Sto} : evSs C l_law_ids_1 env s = evSs C (.cons (.set 3 (.bin .add (.bin .add (.var 3) (.int 1)) (.call .f_law_next (.cons (.var 0) (.cons (.int 4) .nil))))) (.cons (.expr (.met .append (.var 2) (.var 3))) .nil)) env s := nr rfl
def b_law_ids : Sxs F := (.cons (.set 2 (.lst .nil)) (.cons (.set 3 (.int 0)) (.cons (.for_ [4] true (.rng1 (.call .f_law_next (.cons (.var 0) (.cons (.bin .add (.var 1) (.int 1)) .nil)))) l_law_ids_1) (.cons (.iff (.cmp .eq (.call .f_law_next (.cons (.var 0) (.cons (.int 9) .nil))) (.int 1)) (.cons (.expr (.met .append (.var 2) (.int 99))) .nil) .nil) (.cons (.ret (.var 2)) .nil)))))
@[simp] theorem ub_law_ids {C : F → List D → Sto → R D} {env : Env} {s : Sto} : evSs C b_law_ids env s = evSs C (.cons (.set 2 (.lst .nil)) (.cons (.set 3 (.int 0)) (.cons (.for_ [4] true (.rng1 (.call .f_law_next (.cons (.var 0) (.cons (.bin .add (.var 1) (.int 1)) .nil)))) l_law_ids_1) (.cons (.iff (.cmp .eq (.call .f_law_next (.cons (.var 0) (.cons (.int 9) .nil))) (.int 1)) (.cons (.expr (.met .append (.var 2) (.int 99))) .nil) .nil) (.cons (.ret (.var 2)) .nil))))) env s := nr rfl
def l_law_split_1 : Sxs F := (.cons (.iff (.cmp .eq (.call .f_law_next (.cons (.var 0) (.cons (.int 5) .nil))) (.int 1)) (.cons (.expr (.met .append (.var 3) (.var 4))) .nil) (.cons (.expr (.met .append (.var 2) (.var 4))) .nil)) .nil)
@[simp] theorem ul_law_split_1 {C : F → List D → Sto → R D} {env : Env} {s : Sto} : evSs C l_law_split_1 env s = evSs C (.cons (.iff (.cmp .eq (.call .f_law_next (.cons (.var 0) (.cons (.int 5) .nil))) (.int 1)) (.cons (.expr (.met .append (.var 3) (.var 4))) .nil) (.cons (.expr (.met .append (.var 2) (.var 4))) .nil)) .nil) env s := nr rfl
def b_law_split : Sxs F := (.cons (.set 2 (.lst .nil)) (.cons (.set 3 (.lst .nil)) (.cons (.for_ [4] true (.ex (.var 1)) l_law_split_1) (.cons (.ret (.lst (.cons (.var 2) (.cons (.var 3) .nil)))) .nil))))
@[simp] theorem ub_law_split {C : F → List D → Sto → R D} {env : Env} {s : Sto} : evSs C b_law_split env s = evSs C (.cons (.set 2 (.lst .nil)) (.cons (.set 3 (.lst .nil)) (.cons (.for_ [4] true (.ex (.var 1)) l_law_split_1) (.cons (.ret (.lst (.cons (.var 2) (.cons (.var 3) .nil)))) .nil)))) env s := nr rfl
def b_law_leaf : Sxs F := (.cons (.set 1 (.call .f_law_next (.cons (.var 0) (.cons (.int 8) .nil)))) (.cons (.iff (.cmp .lt (.var 1) (.int 4)) (.cons (.set 2 (.bin .sub (.call .f_law_next (.cons (.var 0) (.cons (.int 12) .nil))) (.int 6))) (.cons (.set 3 (.bin .add (.var 2) (.call .f_law_next (.cons (.var 0) (.cons (.int 9) .nil))))) (.cons (.iff (.cmp .eq (.call .f_law_next (.cons (.var 0) (.cons (.int 9) .nil))) (.int 1)) (.cons (.ret (.tup (.cons (.str "number") (.cons (.neg (.bin .pow (.int 10) (.int 15))) (.cons (.bin .pow (.int 10) (.int 15)) .nil))))) .nil) .nil) (.cons (.ret (.tup (.cons (.str "number") (.cons (.var 2) (.cons (.var 3) .nil))))) .nil)))) .nil) (.cons (.iff (.cmp .lt (.var 1) (.int 6)) (.cons (.set 2 (.call .f_law_next (.cons (.var 0) (.cons (.int 3) .nil)))) (.cons (.set 3 (.bin .add (.var 2) (.call .f_law_next (.cons (.var 0) (.cons (.int 4) .nil))))) (.cons (.iff (.cmp .eq (.call .f_law_next (.cons (.var 0) (.cons (.int 9) .nil))) (.int 1)) (.cons (.set 3 (.int 40)) .nil) .nil) (.cons (.ret (.tup (.cons (.str "text") (.cons (.var 2) (.cons (.var 3) .nil))))) .nil)))) .nil) (.cons (.set 4 (.call .f_law_split (.cons (.var 0) (.cons (.call .f_law_ids (.cons (.var 0) (.cons (.int 4) .nil))) .nil)))) (.cons (.set 5 (.or (.cmp .eq (.call .f_law_next (.cons (.var 0) (.cons (.int 2) .nil))) (.int 1)) (.or (.cmp .gt (.blt .len (.cons (.idx (.var 4) (.int 1)) .nil)) (.int 0)) (.cmp .eq (.blt .len (.cons (.idx (.var 4) (.int 0)) .nil)) (.int 0))))) (.cons (.ret (.tup (.cons (.str "choice") (.cons (.blt .tuple (.cons (.idx (.var 4) (.int 0)) .nil)) (.cons (.blt .tuple (.cons (.idx (.var 4) (.int 1)) .nil)) (.cons (.var 5) .nil)))))) .nil))))))
@[simp] theorem ub_law_leaf {C : F → List D → Sto → R D} {env : Env} {s : Sto} : evSs C b_law_leaf env s = evSs C (.cons (.set 1 (.call .f_law_next (.cons (.var 0) (.cons (.int 8) .nil)))) (.cons (.iff (.cmp .lt (.var 1) (.int 4)) (.cons (.set 2 (.bin .sub (.call .f_law_next (.cons (.var 0) (.cons (.int 12) .nil))) (.int 6))) (.cons (.set 3 (.bin .add (.var 2) (.call .f_law_next (.cons (.var 0) (.cons (.int 9) .nil))))) (.cons (.iff (.cmp .eq (.call .f_law_next (.cons (.var 0) (.cons (.int 9) .nil))) (.int 1)) (.cons (.ret (.tup (.cons (.str "number") (.cons (.neg (.bin .pow (.int 10) (.int 15))) (.cons (.bin .pow (.int 10) (.int 15)) .nil))))) .nil) .nil) (.cons (.ret (.tup (.cons (.str "number") (.cons (.var 2) (.cons (.var 3) .nil))))) .nil)))) .nil) (.cons (.iff (.cmp .lt (.var 1) (.int 6)) (.cons (.set 2 (.call .f_law_next (.cons (.var 0) (.cons (.int 3) .nil)))) (.cons (.set 3 (.bin .add (.var 2) (.call .f_law_next (.cons (.var 0) (.cons (.int 4) .nil))))) (.cons (.iff (.cmp .eq (.call .f_law_next (.cons (.var 0) (.cons (.int 9) .nil))) (.int 1)) (.cons (.set 3 (.int 40)) .nil) .nil) (.cons (.ret (.tup (.cons (.str "text") (.cons (.var 2) (.cons (.var 3) .nil))))) .nil)))) .nil) (.cons (.set 4 (.call .f_law_split (.cons (.var 0) (.cons (.call .f_law_ids (.cons (.var 0) (.cons (.int 4) .nil))) .nil)))) (.cons (.set 5 (.or (.cmp .eq (.call .f_law_next (.cons (.var 0) (.cons (.int 2) .nil))) (.int 1)) (.or (.cmp .gt (.blt .len (.cons (.idx (.var 4) (.int 1)) .nil)) (.int 0)) (.cmp .eq (.blt .len (.cons (.idx (.var 4) (.int 0)) .nil)) (.int 0))))) (.cons (.ret (.tup (.cons (.str "choice") (.cons (.blt .tuple (.cons (.idx (.var 4) (.int 0)) .nil)) (.cons (.blt .tuple (.cons (.idx (.var 4) (.int 1)) .nil)) (.cons (.var 5) .nil)))))) .nil)))))) env s := nr rfl
def b_law_leaf_value : Sxs F := (.cons (.iff (.cmp .eq (.idx (.var 0) (.int 0)) (.str "number")) (.cons (.set 2 (.call .f_law_next (.cons (.var 1) (.cons (.int 5) .nil)))) (.cons (.iff (.cmp .eq (.var 2) (.int 1)) (.cons (.ret (.idx (.var 0) (.int 1))) .nil) .nil) (.cons (.iff (.cmp .eq (.var 2) (.int 2)) (.cons (.ret (.idx (.var 0) (.int 2))) .nil) .nil) (.cons (.ret (.bin .add (.idx (.var 0) (.int 1)) (.bin .mod (.blt .int_ (.cons (.call .f_law_big (.cons (.var 1) .nil)) .nil)) (.bin .add (.bin .sub (.idx (.var 0) (.int 2)) (.idx (.var 0) (.int 1))) (.int 1))))) .nil)))) .nil) (.cons (.iff (.cmp .eq (.idx (.var 0) (.int 0)) (.str "text")) (.cons (.set 3 (.bin .add (.idx (.var 0) (.int 1)) (.call .f_law_next (.cons (.var 1) (.cons (.bin .add (.bin .sub (.idx (.var 0) (.int 2)) (.idx (.var 0) (.int 1))) (.int 1)) .nil))))) (.cons (.ret (.met .join (.str "") (.lc [4] true (.call .f_law_char (.cons (.call .f_law_next (.cons (.var 1) (.cons (.int 94) .nil))) .nil)) (.rng1 (.var 3)) .none))) .nil)) .nil) (.cons (.set 5 (.blt .list (.cons (.idx (.var 0) (.int 1)) .nil))) (.cons (.iff (.idx (.var 0) (.int 3)) (.cons (.expr (.met .append (.var 5) (.int 0))) .nil) .nil) (.cons (.ret (.idx (.var 5) (.call .f_law_next (.cons (.var 1) (.cons (.blt .len (.cons (.var 5) .nil)) .nil))))) .nil)))))
@[simp] theorem ub_law_leaf_value {C : F → List D → Sto → R D} {env : Env} {s : Sto} : evSs C b_law_leaf_value env s = evSs C (.cons (.iff (.cmp .eq (.idx (.var 0) (.int 0)) (.str "number")) (.cons (.set 2 (.call .f_law_next (.cons (.var 1) (.cons (.int 5) .nil)))) (.cons (.iff (.cmp .eq (.var 2) (.int 1)) (.cons (.ret (.idx (.var 0) (.int 1))) .nil) .nil) (.cons (.iff (.cmp .eq (.var 2) (.int 2)) (.cons (.ret (.idx (.var 0) (.int 2))) .nil) .nil) (.cons (.ret (.bin .add (.idx (.var 0) (.int 1)) (.bin .mod (.blt .int_ (.cons (.call .f_law_big (.cons (.var 1) .nil)) .nil)) (.bin .add (.bin .sub (.idx (.var 0) (.int 2)) (.idx (.var 0) (.int 1))) (.int 1))))) .nil)))) .nil) (.cons (.iff (.cmp .eq (.idx (.var 0) (.int 0)) (.str "text")) (.cons (.set 3 (.bin .add (.idx (.var 0) (.int 1)) (.call .f_law_next (.cons (.var 1) (.cons (.bin .add (.bin .sub (.idx (.var 0) (.int 2)) (.idx (.var 0) (.int 1))) (.int 1)) .nil))))) (.cons (.ret (.met .join (.str "") (.lc [4] true (.call .f_law_char (.cons (.call .f_law_next (.cons (.var 1) (.cons (.int 94) .nil))) .nil)) (.rng1 (.var 3)) .none))) .nil)) .nil) (.cons (.set 5 (.blt .list (.cons (.idx (.var 0) (.int 1)) .nil))) (.cons (.iff (.idx (.var 0) (.int 3)) (.cons (.expr (.met .append (.var 5) (.int 0))) .nil) .nil) (.cons (.ret (.idx (.var 5) (.call .f_law_next (.cons (.var 1) (.cons (.blt .len (.cons (.var 5) .nil)) .nil))))) .nil))))) env s := nr rfl
def b_law_part : Sxs F := (.cons (.iff (.cmp .eq (.call .f_law_next (.cons (.var 0) (.cons (.int 3) .nil))) (.int 1)) (.cons (.ret (.idx (.var 1) (.call .f_law_next (.cons (.var 0) (.cons (.blt .len (.cons (.var 1) .nil)) .nil))))) .nil) .nil) (.cons (.ret (.call .f_law_leaf (.cons (.var 0) .nil))) .nil))
@[simp] theorem ub_law_part {C : F → List D → Sto → R D} {env : Env} {s : Sto} : evSs C b_law_part env s = evSs C (.cons (.iff (.cmp .eq (.call .f_law_next (.cons (.var 0) (.cons (.int 3) .nil))) (.int 1)) (.cons (.ret (.idx (.var 1) (.call .f_law_next (.cons (.var 0) (.cons (.blt .len (.cons (.var 1) .nil)) .nil))))) .nil) .nil) (.cons (.ret (.call .f_law_leaf (.cons (.var 0) .nil))) .nil)) env s := nr rfl
def b_law_list_body : Sxs F := (.cons (.set 3 (.int 0)) (.cons (.iff (.cmp .eq (.call .f_law_next (.cons (.var 0) (.cons (.int 2) .nil))) (.int 1)) (.cons (.set 4 (.idx (.var 1) (.call .f_law_next (.cons (.var 0) (.cons (.blt .len (.cons (.var 1) .nil)) .nil))))) (.cons (.iff (.cmp .in_ (.var 4) (.var 2)) (.cons (.set 3 (.call .f_law_next (.cons (.var 0) (.cons (.int 2) .nil)))) .nil) .nil) .nil)) (.cons (.set 4 (.call .f_law_leaf (.cons (.var 0) .nil))) (.cons (.set 3 (.call .f_law_next (.cons (.var 0) (.cons (.int 3) .nil)))) .nil))) (.cons (.set 5 (.blt .max (.cons (.int 1) (.cons (.bin .add (.var 3) (.call .f_law_next (.cons (.var 0) (.cons (.int 4) .nil)))) .nil)))) (.cons (.iff (.cmp .eq (.call .f_law_next (.cons (.var 0) (.cons (.int 9) .nil))) (.int 1)) (.cons (.set 5 (.int 99)) .nil) .nil) (.cons (.ret (.tup (.cons (.str "list") (.cons (.var 4) (.cons (.var 3) (.cons (.var 5) .nil)))))) .nil)))))
@[simp] theorem ub_law_list_body {C : F → List D → Sto → R D} {env : Env} {s : Sto} : evSs C b_law_list_body env s = evSs C (.cons (.set 3 (.int 0)) (.cons (.iff (.cmp .eq (.call .f_law_next (.cons (.var 0) (.cons (.int 2) .nil))) (.int 1)) (.cons (.set 4 (.idx (.var 1) (.call .f_law_next (.cons (.var 0) (.cons (.blt .len (.cons (.var 1) .nil)) .nil))))) (.cons (.iff (.cmp .in_ (.var 4) (.var 2)) (.cons (.set 3 (.call .f_law_next (.cons (.var 0) (.cons (.int 2) .nil)))) .nil) .nil) .nil)) (.cons (.set 4 (.call .f_law_leaf (.cons (.var 0) .nil))) (.cons (.set 3 (.call .f_law_next (.cons (.var 0) (.cons (.int 3) .nil)))) .nil))) (.cons (.set 5 (.blt .max (.cons (.int 1) (.cons (.bin .add (.var 3) (.call .f_law_next (.cons (.var 0) (.cons (.int 4) .nil)))) .nil)))) (.cons (.iff (.cmp .eq (.call .f_law_next (.cons (.var 0) (.cons (.int 9) .nil))) (.int 1)) (.cons (.set 5 (.int 99)) .nil) .nil) (.cons (.ret (.tup (.cons (.str "list") (.cons (.var 4) (.cons (.var 3) (.cons (.var 5) .nil)))))) .nil))))) env s := nr rfl
def l_law_record_body_1 : Sxs F := (.cons (.set 7 (.call .f_law_part (.cons (.var 0) (.cons (.var 1) .nil)))) (.cons (.set 8 (.call .f_law_next (.cons (.var 0) (.cons (.int 4) .nil)))) (.cons (.iff (.isi (.var 7) .str) (.cons (.iff (.and (.cmp .ne (.var 8) (.int 1)) (.and (.var 5) (.cmp .in_ (.var 7) (.var 2)))) (.cons (.set 5 (.bl false)) (.cons (.expr (.met .append (.var 4) (.tup (.cons (.var 6) (.cons (.var 7) (.cons (.str "required") (.cons .non .nil))))))) .nil)) (.cons (.expr (.met .append (.var 4) (.tup (.cons (.var 6) (.cons (.var 7) (.cons (.str "optional") (.cons .non .nil))))))) .nil)) .nil) (.cons (.iff (.cmp .eq (.var 8) (.int 1)) (.cons (.expr (.met .append (.var 4) (.tup (.cons (.var 6) (.cons (.var 7) (.cons (.str "optional") (.cons .non .nil))))))) .nil) (.cons (.iff (.and (.cmp .eq (.var 8) (.int 2)) (.cmp .ne (.idx (.var 7) (.int 0)) (.str "choice"))) (.cons (.expr (.met .append (.var 4) (.tup (.cons (.var 6) (.cons (.var 7) (.cons (.str "default") (.cons (.call .f_law_leaf_value (.cons (.var 7) (.cons (.var 0) .nil))) .nil))))))) .nil) (.cons (.expr (.met .append (.var 4) (.tup (.cons (.var 6) (.cons (.var 7) (.cons (.str "required") (.cons .non .nil))))))) .nil)) .nil)) .nil)) .nil)))
@[simp] theorem ul_law_record_body_1 {C : F → List D → Sto → R D} {env : Env} {s : Sto} : evSs C l_law_record_body_1 env s = evSs C (.cons (.set 7 (.call .f_law_part (.cons (.var 0) (.cons (.var 1) .nil)))) (.cons (.set 8 (.call .f_law_next (.cons (.var 0) (.cons (.int 4) .nil)))) (.cons (.iff (.isi (.var 7) .str) (.cons (.iff (.and (.cmp .ne (.var 8) (.int 1)) (.and (.var 5) (.cmp .in_ (.var 7) (.var 2)))) (.cons (.set 5 (.bl false)) (.cons (.expr (.met .append (.var 4) (.tup (.cons (.var 6) (.cons (.var 7) (.cons (.str "required") (.cons .non .nil))))))) .nil)) (.cons (.expr (.met .append (.var 4) (.tup (.cons (.var 6) (.cons (.var 7) (.cons (.str "optional") (.cons .non .nil))))))) .nil)) .nil) (.cons (.iff (.cmp .eq (.var 8) (.int 1)) (.cons (.expr (.met .append (.var 4) (.tup (.cons (.var 6) (.cons (.var 7) (.cons (.str "optional") (.cons .non .nil))))))) .nil) (.cons (.iff (.and (.cmp .eq (.var 8) (.int 2)) (.cmp .ne (.idx (.var 7) (.int 0)) (.str "choice"))) (.cons (.expr (.met .append (.var 4) (.tup (.cons (.var 6) (.cons (.var 7) (.cons (.str "default") (.cons (.call .f_law_leaf_value (.cons (.var 7) (.cons (.var 0) .nil))) .nil))))))) .nil) (.cons (.expr (.met .append (.var 4) (.tup (.cons (.var 6) (.cons (.var 7) (.cons (.str "required") (.cons .non .nil))))))) .nil)) .nil)) .nil)) .nil))) env s := nr rfl
def b_law_record_body : Sxs F := (.cons (.set 3 (.call .f_law_split (.cons (.var 0) (.cons (.call .f_law_ids (.cons (.var 0) (.cons (.int 4) .nil))) .nil)))) (.cons (.set 4 (.lst .nil)) (.cons (.set 5 (.bl true)) (.cons (.for_ [6] true (.ex (.idx (.var 3) (.int 0))) l_law_record_body_1) (.cons (.ret (.tup (.cons (.str "record") (.cons (.blt .tuple (.cons (.var 4) .nil)) (.cons (.blt .tuple (.cons (.idx (.var 3) (.int 1)) .nil)) .nil))))) .nil)))))
@[simp] theorem ub_law_record_body {C : F → List D → Sto → R D} {env : Env} {s : Sto} : evSs C b_law_record_body env s = evSs C (.cons (.set 3 (.call .f_law_split (.cons (.var 0) (.cons (.call .f_law_ids (.cons (.var 0) (.cons (.int 4) .nil))) .nil)))) (.cons (.set 4 (.lst .nil)) (.cons (.set 5 (.bl true)) (.cons (.for_ [6] true (.ex (.idx (.var 3) (.int 0))) l_law_record_body_1) (.cons (.ret (.tup (.cons (.str "record") (.cons (.blt .tuple (.cons (.var 4) .nil)) (.cons (.blt .tuple (.cons (.idx (.var 3) (.int 1)) .nil)) .nil))))) .nil))))) env s := nr rfl
def b_law_union_body : Sxs F := (.cons (.set 3 (.call .f_law_split (.cons (.var 0) (.cons (.call .f_law_ids (.cons (.var 0) (.cons (.int 4) .nil))) .nil)))) (.cons (.set 4 (.lc [5] true (.tup (.cons (.var 5) (.cons (.call .f_law_part (.cons (.var 0) (.cons (.var 1) .nil))) .nil))) (.ex (.idx (.var 3) (.int 0))) .none)) (.cons (.set 6 (.lc [7] true (.var 7) (.ex (.var 4)) (.some (.or (.not (.isi (.idx (.var 7) (.int 1)) .str)) (.cmp .in_ (.idx (.var 7) (.int 1)) (.var 2)))))) (.cons (.set 8 (.or (.cmp .eq (.call .f_law_next (.cons (.var 0) (.cons (.int 2) .nil))) (.int 1)) (.or (.cmp .gt (.blt .len (.cons (.idx (.var 3) (.int 1)) .nil)) (.int 0)) (.cmp .eq (.blt .len (.cons (.var 6) .nil)) (.int 0))))) (.cons (.ret (.tup (.cons (.str "union") (.cons (.blt .tuple (.cons (.var 4) .nil)) (.cons (.blt .tuple (.cons (.idx (.var 3) (.int 1)) .nil)) (.cons (.var 8) .nil)))))) .nil)))))
@[simp] theorem ub_law_union_body {C : F → List D → Sto → R D} {env : Env} {s : Sto} : evSs C b_law_union_body env s = evSs C (.cons (.set 3 (.call .f_law_split (.cons (.var 0) (.cons (.call .f_law_ids (.cons (.var 0) (.cons (.int 4) .nil))) .nil)))) (.cons (.set 4 (.lc [5] true (.tup (.cons (.var 5) (.cons (.call .f_law_part (.cons (.var 0) (.cons (.var 1) .nil))) .nil))) (.ex (.idx (.var 3) (.int 0))) .none)) (.cons (.set 6 (.lc [7] true (.var 7) (.ex (.var 4)) (.some (.or (.not (.isi (.idx (.var 7) (.int 1)) .str)) (.cmp .in_ (.idx (.var 7) (.int 1)) (.var 2)))))) (.cons (.set 8 (.or (.cmp .eq (.call .f_law_next (.cons (.var 0) (.cons (.int 2) .nil))) (.int 1)) (.or (.cmp .gt (.blt .len (.cons (.idx (.var 3) (.int 1)) .nil)) (.int 0)) (.cmp .eq (.blt .len (.cons (.var 6) .nil)) (.int 0))))) (.cons (.ret (.tup (.cons (.str "union") (.cons (.blt .tuple (.cons (.var 4) .nil)) (.cons (.blt .tuple (.cons (.idx (.var 3) (.int 1)) .nil)) (.cons (.var 8) .nil)))))) .nil))))) env s := nr rfl
def l_law_schema_1 : Sxs F := (.cons (.set 5 (.call .f_law_next (.cons (.var 0) (.cons (.int 6) .nil)))) (.cons (.set 6 (.slc (.var 2) (.some (.bin .add (.var 4) (.int 1))) .none)) (.cons (.iff (.cmp .lt (.var 5) (.int 3)) (.cons (.set 7 (.call .f_law_record_body (.cons (.var 0) (.cons (.var 2) (.cons (.var 6) .nil))))) .nil) (.cons (.iff (.cmp .lt (.var 5) (.int 5)) (.cons (.set 7 (.call .f_law_union_body (.cons (.var 0) (.cons (.var 2) (.cons (.var 6) .nil))))) .nil) (.cons (.set 7 (.call .f_law_list_body (.cons (.var 0) (.cons (.var 2) (.cons (.var 6) .nil))))) .nil)) .nil)) (.cons (.expr (.met .append (.var 3) (.tup (.cons (.idx (.var 2) (.var 4)) (.cons (.var 7) .nil))))) .nil))))
@[simp] theorem ul_law_schema_1 {C : F → List D → Sto → R D} {env : Env} {s : Sto} : evSs C l_law_schema_1 env s = evSs C (.cons (.set 5 (.call .f_law_next (.cons (.var 0) (.cons (.int 6) .nil)))) (.cons (.set 6 (.slc (.var 2) (.some (.bin .add (.var 4) (.int 1))) .none)) (.cons (.iff (.cmp .lt (.var 5) (.int 3)) (.cons (.set 7 (.call .f_law_record_body (.cons (.var 0) (.cons (.var 2) (.cons (.var 6) .nil))))) .nil) (.cons (.iff (.cmp .lt (.var 5) (.int 5)) (.cons (.set 7 (.call .f_law_union_body (.cons (.var 0) (.cons (.var 2) (.cons (.var 6) .nil))))) .nil) (.cons (.set 7 (.call .f_law_list_body (.cons (.var 0) (.cons (.var 2) (.cons (.var 6) .nil))))) .nil)) .nil)) (.cons (.expr (.met .append (.var 3) (.tup (.cons (.idx (.var 2) (.var 4)) (.cons (.var 7) .nil))))) .nil)))) env s := nr rfl
def b_law_schema : Sxs F := (.cons (.set 1 (.bin .add (.int 1) (.call .f_law_next (.cons (.var 0) (.cons (.int 4) .nil))))) (.cons (.set 2 (.slc (.lst (.cons (.str "a") (.cons (.str "ab") (.cons (.str "b") (.cons (.str "ba") .nil))))) .none (.some (.var 1)))) (.cons (.set 3 (.lst .nil)) (.cons (.for_ [4] true (.rng1 (.var 1)) l_law_schema_1) (.cons (.ret (.tup (.cons (.idx (.var 2) (.call .f_law_next (.cons (.var 0) (.cons (.var 1) .nil)))) (.cons (.blt .tuple (.cons (.var 3) .nil)) .nil)))) .nil)))))
@[simp] theorem ub_law_schema {C : F → List D → Sto → R D} {env : Env} {s : Sto} : evSs C b_law_schema env s = evSs C (.cons (.set 1 (.bin .add (.int 1) (.call .f_law_next (.cons (.var 0) (.cons (.int 4) .nil))))) (.cons (.set 2 (.slc (.lst (.cons (.str "a") (.cons (.str "ab") (.cons (.str "b") (.cons (.str "ba") .nil))))) .none (.some (.var 1)))) (.cons (.set 3 (.lst .nil)) (.cons (.for_ [4] true (.rng1 (.var 1)) l_law_schema_1) (.cons (.ret (.tup (.cons (.idx (.var 2) (.call .f_law_next (.cons (.var 0) (.cons (.var 1) .nil)))) (.cons (.blt .tuple (.cons (.var 3) .nil)) .nil)))) .nil))))) env s := nr rfl
def l_law_with_body_1 : Sxs F := (.cons (.iff (.cmp .eq (.idx (.var 4) (.int 0)) (.var 1)) (.cons (.expr (.met .append (.var 3) (.tup (.cons (.var 1) (.cons (.var 2) .nil))))) .nil) (.cons (.expr (.met .append (.var 3) (.var 4))) .nil)) .nil)
@[simp] theorem ul_law_with_body_1 {C : F → List D → Sto → R D} {env : Env} {s : Sto} : evSs C l_law_with_body_1 env s = evSs C (.cons (.iff (.cmp .eq (.idx (.var 4) (.int 0)) (.var 1)) (.cons (.expr (.met .append (.var 3) (.tup (.cons (.var 1) (.cons (.var 2) .nil))))) .nil) (.cons (.expr (.met .append (.var 3) (.var 4))) .nil)) .nil) env s := nr rfl
def b_law_with_body : Sxs F := (.cons (.set 3 (.lst .nil)) (.cons (.for_ [4] true (.ex (.idx (.var 0) (.int 1))) l_law_with_body_1) (.cons (.ret (.tup (.cons (.idx (.var 0) (.int 0)) (.cons (.blt .tuple (.cons (.var 3) .nil)) .nil)))) .nil)))
@[simp] theorem ub_law_with_body {C : F → List D → Sto → R D} {env : Env} {s : Sto} : evSs C b_law_with_body env s = evSs C (.cons (.set 3 (.lst .nil)) (.cons (.for_ [4] true (.ex (.idx (.var 0) (.int 1))) l_law_with_body_1) (.cons (.ret (.tup (.cons (.idx (.var 0) (.int 0)) (.cons (.blt .tuple (.cons (.var 3) .nil)) .nil)))) .nil))) env s := nr rfl
def l_law_same_1 : Sxs F := (.cons (.iff (.not (.call .f_law_same (.cons (.idx (.var 0) (.var 2)) (.cons (.idx (.var 1) (.var 2)) .nil)))) (.cons (.ret (.bl false)) .nil) .nil) .nil)
@[simp] theorem ul_law_same_1 {C : F → List D → Sto → R D} {env : Env} {s : Sto} : evSs C l_law_same_1 env s = evSs C (.cons (.iff (.not (.call .f_law_same (.cons (.idx (.var 0) (.var 2)) (.cons (.idx (.var 1) (.var 2)) .nil)))) (.cons (.ret (.bl false)) .nil) .nil) .nil) env s := nr rfl
def b_law_same : Sxs F := (.cons (.iff (.cmp .is (.var 1) .non) (.cons (.ret (.cmp .is (.var 0) .non)) .nil) .nil) (.cons (.iff (.isi (.var 1) .tuple) (.cons (.iff (.or (.not (.isi (.var 0) .tuple)) (.cmp .ne (.blt .len (.cons (.var 0) .nil)) (.blt .len (.cons (.var 1) .nil)))) (.cons (.ret (.bl false)) .nil) .nil) (.cons (.for_ [2] true (.rng1 (.blt .len (.cons (.var 1) .nil))) l_law_same_1) (.cons (.ret (.bl true)) .nil))) .nil) (.cons (.iff (.isi (.var 1) .bool) (.cons (.ret (.and (.isi (.var 0) .bool) (.cmp .eq (.var 0) (.var 1)))) .nil) .nil) (.cons (.iff (.isi (.var 1) .int) (.cons (.ret (.and (.isi (.var 0) .int) (.and (.not (.isi (.var 0) .bool)) (.cmp .eq (.var 0) (.var 1))))) .nil) .nil) (.cons (.ret (.and (.isi (.var 0) .str) (.cmp .eq (.var 0) (.var 1)))) .nil)))))
@[simp] theorem ub_law_same {C : F → List D → Sto → R D} {env : Env} {s : Sto} : evSs C b_law_same env s = evSs C (.cons (.iff (.cmp .is (.var 1) .non) (.cons (.ret (.cmp .is (.var 0) .non)) .nil) .nil) (.cons (.iff (.isi (.var 1) .tuple) (.cons (.iff (.or (.not (.isi (.var 0) .tuple)) (.cmp .ne (.blt .len (.cons (.var 0) .nil)) (.blt .len (.cons (.var 1) .nil)))) (.cons (.ret (.bl false)) .nil) .nil) (.cons (.for_ [2] true (.rng1 (.blt .len (.cons (.var 1) .nil))) l_law_same_1) (.cons (.ret (.bl true)) .nil))) .nil) (.cons (.iff (.isi (.var 1) .bool) (.cons (.ret (.and (.isi (.var 0) .bool) (.cmp .eq (.var 0) (.var 1)))) .nil) .nil) (.cons (.iff (.isi (.var 1) .int) (.cons (.ret (.and (.isi (.var 0) .int) (.and (.not (.isi (.var 0) .bool)) (.cmp .eq (.var 0) (.var 1))))) .nil) .nil) (.cons (.ret (.and (.isi (.var 0) .str) (.cmp .eq (.var 0) (.var 1)))) .nil))))) env s := nr rfl
def l_law_1 : Sxs F := (.cons (.iff (.not (.call .f_law_same (.cons (.call .f_body_of (.cons (.var 1) (.cons (.idx (.var 7) (.int 0)) .nil))) (.cons (.idx (.var 7) (.int 1)) .nil)))) (.cons (.ret (.bl false)) .nil) .nil) (.cons (.set 8 (.idx (.var 7) (.int 1))) (.cons (.iff (.cmp .eq (.idx (.var 7) (.int 0)) (.var 4)) (.cons (.set 8 (.var 5)) .nil) .nil) (.cons (.iff (.and (.call .f_is_valid (.cons (.var 6) .nil)) (.not (.call .f_law_same (.cons (.call .f_body_of (.cons (.var 6) (.cons (.idx (.var 7) (.int 0)) .nil))) (.cons (.var 8) .nil))))) (.cons (.ret (.bl false)) .nil) .nil) .nil))))
@[simp] theorem ul_law_1 {C : F → List D → Sto → R D} {env : Env} {s : Sto} : evSs C l_law_1 env s = evSs C (.cons (.iff (.not (.call .f_law_same (.cons (.call .f_body_of (.cons (.var 1) (.cons (.idx (.var 7) (.int 0)) .nil))) (.cons (.idx (.var 7) (.int 1)) .nil)))) (.cons (.ret (.bl false)) .nil) .nil) (.cons (.set 8 (.idx (.var 7) (.int 1))) (.cons (.iff (.cmp .eq (.idx (.var 7) (.int 0)) (.var 4)) (.cons (.set 8 (.var 5)) .nil) .nil) (.cons (.iff (.and (.call .f_is_valid (.cons (.var 6) .nil)) (.not (.call .f_law_same (.cons (.call .f_body_of (.cons (.var 6) (.cons (.idx (.var 7) (.int 0)) .nil))) (.cons (.var 8) .nil))))) (.cons (.ret (.bl false)) .nil) .nil) .nil)))) env s := nr rfl
def b_law : Sxs F := (.cons (.set 1 (.call .f_law_schema (.cons (.call .f_law_draws (.cons (.call .f_law_cell (.cons (.var 0) (.cons (.int 0) .nil))) .nil)) .nil))) (.cons (.set 2 (.call .f_law_draws (.cons (.call .f_law_cell (.cons (.var 0) (.cons (.int 1) .nil))) .nil))) (.cons (.iff (.cmp .eq (.call .f_law_next (.cons (.var 2) (.cons (.int 4) .nil))) (.int 1)) (.cons (.set 1 (.con "META" c_META)) .nil) .nil) (.cons (.set 3 (.blt .len (.cons (.idx (.var 1) (.int 1)) .nil))) (.cons (.set 4 (.idx (.idx (.idx (.var 1) (.int 1)) (.call .f_law_next (.cons (.var 2) (.cons (.var 3) .nil)))) (.int 0))) (.cons (.set 5 (.idx (.idx (.idx (.var 1) (.int 1)) (.call .f_law_next (.cons (.var 2) (.cons (.var 3) .nil)))) (.int 1))) (.cons (.set 6 (.call .f_with_body (.cons (.var 1) (.cons (.var 4) (.cons (.var 5) .nil))))) (.cons (.iff (.not (.call .f_law_same (.cons (.var 6) (.cons (.call .f_law_with_body (.cons (.var 1) (.cons (.var 4) (.cons (.var 5) .nil)))) .nil)))) (.cons (.ret (.bl false)) .nil) .nil) (.cons (.for_ [7] true (.ex (.idx (.var 1) (.int 1))) l_law_1) (.cons (.ret (.cmp .is (.call .f_is_valid (.cons (.var 1) .nil)) (.bl true))) .nil))))))))))
@[simp] theorem ub_law {C : F → List D → Sto → R D} {env : Env} {s : Sto} : evSs C b_law env s = evSs C (.cons (.set 1 (.call .f_law_schema (.cons (.call .f_law_draws (.cons (.call .f_law_cell (.cons (.var 0) (.cons (.int 0) .nil))) .nil)) .nil))) (.cons (.set 2 (.call .f_law_draws (.cons (.call .f_law_cell (.cons (.var 0) (.cons (.int 1) .nil))) .nil))) (.cons (.iff (.cmp .eq (.call .f_law_next (.cons (.var 2) (.cons (.int 4) .nil))) (.int 1)) (.cons (.set 1 (.con "META" c_META)) .nil) .nil) (.cons (.set 3 (.blt .len (.cons (.idx (.var 1) (.int 1)) .nil))) (.cons (.set 4 (.idx (.idx (.idx (.var 1) (.int 1)) (.call .f_law_next (.cons (.var 2) (.cons (.var 3) .nil)))) (.int 0))) (.cons (.set 5 (.idx (.idx (.idx (.var 1) (.int 1)) (.call .f_law_next (.cons (.var 2) (.cons (.var 3) .nil)))) (.int 1))) (.cons (.set 6 (.call .f_with_body (.cons (.var 1) (.cons (.var 4) (.cons (.var 5) .nil))))) (.cons (.iff (.not (.call .f_law_same (.cons (.var 6) (.cons (.call .f_law_with_body (.cons (.var 1) (.cons (.var 4) (.cons (.var 5) .nil)))) .nil)))) (.cons (.ret (.bl false)) .nil) .nil) (.cons (.for_ [7] true (.ex (.idx (.var 1) (.int 1))) l_law_1) (.cons (.ret (.cmp .is (.call .f_is_valid (.cons (.var 1) .nil)) (.bl true))) .nil)))))))))) env s := nr rfl
def T : F → Fn F
  | .f_are_ascending_ids => ⟨1, 3, .raw, b_are_ascending_ids⟩
  | .f_have_common => ⟨2, 3, .raw, b_have_common⟩
  | .f_are_valid_ids => ⟨3, 3, .raw, b_are_valid_ids⟩
  | .f_is_valid_leaf => ⟨1, 1, .raw, b_is_valid_leaf⟩
  | .f_is_allowed_code => ⟨1, 1, .raw, b_is_allowed_code⟩
  | .f_is_text => ⟨1, 2, .raw, b_is_text⟩
  | .f_is_leaf_value => ⟨2, 2, .raw, b_is_leaf_value⟩
  | .f_is_name => ⟨1, 1, .raw, b_is_name⟩
  | .f_body_of => ⟨2, 4, .raw, b_body_of⟩
  | .f_with_body => ⟨3, 6, .pur, b_with_body⟩
  | .f_live_ids => ⟨1, 2, .pur, b_live_ids⟩
  | .f_is_valid_name => ⟨1, 2, .raw, b_is_valid_name⟩
  | .f_is_valid_part => ⟨2, 2, .raw, b_is_valid_part⟩
  | .f_is_valid_field => ⟨2, 6, .raw, b_is_valid_field⟩
  | .f_is_valid_body => ⟨2, 5, .raw, b_is_valid_body⟩
  | .f_is_described => ⟨1, 5, .pur, b_is_described⟩
  | .f_is_known => ⟨2, 2, .raw, b_is_known⟩
  | .f_part_depth => ⟨2, 2, .raw, b_part_depth⟩
  | .f_has_value => ⟨2, 5, .raw, b_has_value⟩
  | .f_least_depths => ⟨1, 6, .new, b_least_depths⟩
  | .f_simple_case => ⟨2, 4, .raw, b_simple_case⟩
  | .f_part_count => ⟨2, 2, .raw, b_part_count⟩
  | .f_simple_count => ⟨3, 7, .raw, b_simple_count⟩
  | .f_simple_counts => ⟨2, 6, .raw, b_simple_counts⟩
  | .f_are_bounded => ⟨1, 4, .pur, b_are_bounded⟩
  | .f_is_valid => ⟨1, 1, .raw, b_is_valid⟩
  | .f_law_cell => ⟨2, 2, .raw, b_law_cell⟩
  | .f_law_draws => ⟨1, 6, .raw, b_law_draws⟩
  | .f_law_next => ⟨2, 4, .raw, b_law_next⟩
  | .f_law_big => ⟨1, 3, .raw, b_law_big⟩
  | .f_law_char => ⟨1, 2, .raw, b_law_char⟩
  | .f_law_ids => ⟨2, 5, .raw, b_law_ids⟩
  | .f_law_split => ⟨2, 5, .raw, b_law_split⟩
  | .f_law_leaf => ⟨1, 6, .«mut», b_law_leaf⟩
  | .f_law_leaf_value => ⟨2, 6, .«mut», b_law_leaf_value⟩
  | .f_law_part => ⟨2, 2, .raw, b_law_part⟩
  | .f_law_list_body => ⟨3, 6, .raw, b_law_list_body⟩
  | .f_law_record_body => ⟨3, 9, .«mut», b_law_record_body⟩
  | .f_law_union_body => ⟨3, 9, .«mut», b_law_union_body⟩
  | .f_law_schema => ⟨1, 8, .«mut», b_law_schema⟩
  | .f_law_with_body => ⟨3, 5, .pur, b_law_with_body⟩
  | .f_law_same => ⟨2, 3, .raw, b_law_same⟩
  | .f_law => ⟨1, 9, .raw, b_law⟩
@[simp] theorem T_are_ascending_ids : T .f_are_ascending_ids = ⟨1, 3, .raw, b_are_ascending_ids⟩ := rfl
@[simp] theorem T_have_common : T .f_have_common = ⟨2, 3, .raw, b_have_common⟩ := rfl
@[simp] theorem T_are_valid_ids : T .f_are_valid_ids = ⟨3, 3, .raw, b_are_valid_ids⟩ := rfl
@[simp] theorem T_is_valid_leaf : T .f_is_valid_leaf = ⟨1, 1, .raw, b_is_valid_leaf⟩ := rfl
@[simp] theorem T_is_allowed_code : T .f_is_allowed_code = ⟨1, 1, .raw, b_is_allowed_code⟩ := rfl
@[simp] theorem T_is_text : T .f_is_text = ⟨1, 2, .raw, b_is_text⟩ := rfl
@[simp] theorem T_is_leaf_value : T .f_is_leaf_value = ⟨2, 2, .raw, b_is_leaf_value⟩ := rfl
@[simp] theorem T_is_name : T .f_is_name = ⟨1, 1, .raw, b_is_name⟩ := rfl
@[simp] theorem T_body_of : T .f_body_of = ⟨2, 4, .raw, b_body_of⟩ := rfl
@[simp] theorem T_with_body : T .f_with_body = ⟨3, 6, .pur, b_with_body⟩ := rfl
@[simp] theorem T_live_ids : T .f_live_ids = ⟨1, 2, .pur, b_live_ids⟩ := rfl
@[simp] theorem T_is_valid_name : T .f_is_valid_name = ⟨1, 2, .raw, b_is_valid_name⟩ := rfl
@[simp] theorem T_is_valid_part : T .f_is_valid_part = ⟨2, 2, .raw, b_is_valid_part⟩ := rfl
@[simp] theorem T_is_valid_field : T .f_is_valid_field = ⟨2, 6, .raw, b_is_valid_field⟩ := rfl
@[simp] theorem T_is_valid_body : T .f_is_valid_body = ⟨2, 5, .raw, b_is_valid_body⟩ := rfl
@[simp] theorem T_is_described : T .f_is_described = ⟨1, 5, .pur, b_is_described⟩ := rfl
@[simp] theorem T_is_known : T .f_is_known = ⟨2, 2, .raw, b_is_known⟩ := rfl
@[simp] theorem T_part_depth : T .f_part_depth = ⟨2, 2, .raw, b_part_depth⟩ := rfl
@[simp] theorem T_has_value : T .f_has_value = ⟨2, 5, .raw, b_has_value⟩ := rfl
@[simp] theorem T_least_depths : T .f_least_depths = ⟨1, 6, .new, b_least_depths⟩ := rfl
@[simp] theorem T_simple_case : T .f_simple_case = ⟨2, 4, .raw, b_simple_case⟩ := rfl
@[simp] theorem T_part_count : T .f_part_count = ⟨2, 2, .raw, b_part_count⟩ := rfl
@[simp] theorem T_simple_count : T .f_simple_count = ⟨3, 7, .raw, b_simple_count⟩ := rfl
@[simp] theorem T_simple_counts : T .f_simple_counts = ⟨2, 6, .raw, b_simple_counts⟩ := rfl
@[simp] theorem T_are_bounded : T .f_are_bounded = ⟨1, 4, .pur, b_are_bounded⟩ := rfl
@[simp] theorem T_is_valid : T .f_is_valid = ⟨1, 1, .raw, b_is_valid⟩ := rfl
@[simp] theorem T_law_cell : T .f_law_cell = ⟨2, 2, .raw, b_law_cell⟩ := rfl
@[simp] theorem T_law_draws : T .f_law_draws = ⟨1, 6, .raw, b_law_draws⟩ := rfl
@[simp] theorem T_law_next : T .f_law_next = ⟨2, 4, .raw, b_law_next⟩ := rfl
@[simp] theorem T_law_big : T .f_law_big = ⟨1, 3, .raw, b_law_big⟩ := rfl
@[simp] theorem T_law_char : T .f_law_char = ⟨1, 2, .raw, b_law_char⟩ := rfl
@[simp] theorem T_law_ids : T .f_law_ids = ⟨2, 5, .raw, b_law_ids⟩ := rfl
@[simp] theorem T_law_split : T .f_law_split = ⟨2, 5, .raw, b_law_split⟩ := rfl
@[simp] theorem T_law_leaf : T .f_law_leaf = ⟨1, 6, .«mut», b_law_leaf⟩ := rfl
@[simp] theorem T_law_leaf_value : T .f_law_leaf_value = ⟨2, 6, .«mut», b_law_leaf_value⟩ := rfl
@[simp] theorem T_law_part : T .f_law_part = ⟨2, 2, .raw, b_law_part⟩ := rfl
@[simp] theorem T_law_list_body : T .f_law_list_body = ⟨3, 6, .raw, b_law_list_body⟩ := rfl
@[simp] theorem T_law_record_body : T .f_law_record_body = ⟨3, 9, .«mut», b_law_record_body⟩ := rfl
@[simp] theorem T_law_union_body : T .f_law_union_body = ⟨3, 9, .«mut», b_law_union_body⟩ := rfl
@[simp] theorem T_law_schema : T .f_law_schema = ⟨1, 8, .«mut», b_law_schema⟩ := rfl
@[simp] theorem T_law_with_body : T .f_law_with_body = ⟨3, 5, .pur, b_law_with_body⟩ := rfl
@[simp] theorem T_law_same : T .f_law_same = ⟨2, 3, .raw, b_law_same⟩ := rfl
@[simp] theorem T_law : T .f_law = ⟨1, 9, .raw, b_law⟩ := rfl
theorem w_are_ascending_ids {k : Nat} {d0 : D} {s : Sto} {P : D → Sto → Prop} (h : Wp (evSs (callF T k) b_are_ascending_ids [some d0, none, none] s) fun fl s2 => Wp (gcFl .raw s fl s2) P) : Wp (callF T (k + 1) .f_are_ascending_ids [d0] s) P := wp_call rfl h
theorem w_have_common {k : Nat} {d0 d1 : D} {s : Sto} {P : D → Sto → Prop} (h : Wp (evSs (callF T k) b_have_common [some d0, some d1, none] s) fun fl s2 => Wp (gcFl .raw s fl s2) P) : Wp (callF T (k + 1) .f_have_common [d0, d1] s) P := wp_call rfl h
theorem w_are_valid_ids {k : Nat} {d0 d1 d2 : D} {s : Sto} {P : D → Sto → Prop} (h : Wp (evSs (callF T k) b_are_valid_ids [some d0, some d1, some d2] s) fun fl s2 => Wp (gcFl .raw s fl s2) P) : Wp (callF T (k + 1) .f_are_valid_ids [d0, d1, d2] s) P := wp_call rfl h
theorem w_is_valid_leaf {k : Nat} {d0 : D} {s : Sto} {P : D → Sto → Prop} (h : Wp (evSs (callF T k) b_is_valid_leaf [some d0] s) fun fl s2 => Wp (gcFl .raw s fl s2) P) : Wp (callF T (k + 1) .f_is_valid_leaf [d0] s) P := wp_call rfl h
theorem w_is_allowed_code {k : Nat} {d0 : D} {s : Sto} {P : D → Sto → Prop} (h : Wp (evSs (callF T k) b_is_allowed_code [some d0] s) fun fl s2 => Wp (gcFl .raw s fl s2) P) : Wp (callF T (k + 1) .f_is_allowed_code [d0] s) P := wp_call rfl h
theorem w_is_text {k : Nat} {d0 : D} {s : Sto} {P : D → Sto → Prop} (h : Wp (evSs (callF T k) b_is_text [some d0, none] s) fun fl s2 => Wp (gcFl .raw s fl s2) P) : Wp (callF T (k + 1) .f_is_text [d0] s) P := wp_call rfl h
theorem w_is_leaf_value {k : Nat} {d0 d1 : D} {s : Sto} {P : D → Sto → Prop} (h : Wp (evSs (callF T k) b_is_leaf_value [some d0, some d1] s) fun fl s2 => Wp (gcFl .raw s fl s2) P) : Wp (callF T (k + 1) .f_is_leaf_value [d0, d1] s) P := wp_call rfl h
theorem w_is_name {k : Nat} {d0 : D} {s : Sto} {P : D → Sto → Prop} (h : Wp (evSs (callF T k) b_is_name [some d0] s) fun fl s2 => Wp (gcFl .raw s fl s2) P) : Wp (callF T (k + 1) .f_is_name [d0] s) P := wp_call rfl h
theorem w_body_of {k : Nat} {d0 d1 : D} {s : Sto} {P : D → Sto → Prop} (h : Wp (evSs (callF T k) b_body_of [some d0, some d1, none, none] s) fun fl s2 => Wp (gcFl .raw s fl s2) P) : Wp (callF T (k + 1) .f_body_of [d0, d1] s) P := wp_call rfl h
theorem w_with_body {k : Nat} {d0 d1 d2 : D} {s : Sto} {P : D → Sto → Prop} (h : Wp (evSs (callF T k) b_with_body [some d0, some d1, some d2, none, none, none] s) fun fl s2 => Wp (gcFl .pur s fl s2) P) : Wp (callF T (k + 1) .f_with_body [d0, d1, d2] s) P := wp_call rfl h
theorem w_live_ids {k : Nat} {d0 : D} {s : Sto} {P : D → Sto → Prop} (h : Wp (evSs (callF T k) b_live_ids [some d0, none] s) fun fl s2 => Wp (gcFl .pur s fl s2) P) : Wp (callF T (k + 1) .f_live_ids [d0] s) P := wp_call rfl h
theorem w_is_valid_name {k : Nat} {d0 : D} {s : Sto} {P : D → Sto → Prop} (h : Wp (evSs (callF T k) b_is_valid_name [some d0, none] s) fun fl s2 => Wp (gcFl .raw s fl s2) P) : Wp (callF T (k + 1) .f_is_valid_name [d0] s) P := wp_call rfl h
theorem w_is_valid_part {k : Nat} {d0 d1 : D} {s : Sto} {P : D → Sto → Prop} (h : Wp (evSs (callF T k) b_is_valid_part [some d0, some d1] s) fun fl s2 => Wp (gcFl .raw s fl s2) P) : Wp (callF T (k + 1) .f_is_valid_part [d0, d1] s) P := wp_call rfl h
theorem w_is_valid_field {k : Nat} {d0 d1 : D} {s : Sto} {P : D → Sto → Prop} (h : Wp (evSs (callF T k) b_is_valid_field [some d0, some d1, none, none, none, none] s) fun fl s2 => Wp (gcFl .raw s fl s2) P) : Wp (callF T (k + 1) .f_is_valid_field [d0, d1] s) P := wp_call rfl h
theorem w_is_valid_body {k : Nat} {d0 d1 : D} {s : Sto} {P : D → Sto → Prop} (h : Wp (evSs (callF T k) b_is_valid_body [some d0, some d1, none, none, none] s) fun fl s2 => Wp (gcFl .raw s fl s2) P) : Wp (callF T (k + 1) .f_is_valid_body [d0, d1] s) P := wp_call rfl h
theorem w_is_described {k : Nat} {d0 : D} {s : Sto} {P : D → Sto → Prop} (h : Wp (evSs (callF T k) b_is_described [some d0, none, none, none, none] s) fun fl s2 => Wp (gcFl .pur s fl s2) P) : Wp (callF T (k + 1) .f_is_described [d0] s) P := wp_call rfl h
theorem w_is_known {k : Nat} {d0 d1 : D} {s : Sto} {P : D → Sto → Prop} (h : Wp (evSs (callF T k) b_is_known [some d0, some d1] s) fun fl s2 => Wp (gcFl .raw s fl s2) P) : Wp (callF T (k + 1) .f_is_known [d0, d1] s) P := wp_call rfl h
theorem w_part_depth {k : Nat} {d0 d1 : D} {s : Sto} {P : D → Sto → Prop} (h : Wp (evSs (callF T k) b_part_depth [some d0, some d1] s) fun fl s2 => Wp (gcFl .raw s fl s2) P) : Wp (callF T (k + 1) .f_part_depth [d0, d1] s) P := wp_call rfl h
theorem w_has_value {k : Nat} {d0 d1 : D} {s : Sto} {P : D → Sto → Prop} (h : Wp (evSs (callF T k) b_has_value [some d0, some d1, none, none, none] s) fun fl s2 => Wp (gcFl .raw s fl s2) P) : Wp (callF T (k + 1) .f_has_value [d0, d1] s) P := wp_call rfl h
theorem w_least_depths {k : Nat} {d0 : D} {s : Sto} {P : D → Sto → Prop} (h : Wp (evSs (callF T k) b_least_depths [some d0, none, none, none, none, none] s) fun fl s2 => Wp (gcFl .new s fl s2) P) : Wp (callF T (k + 1) .f_least_depths [d0] s) P := wp_call rfl h
theorem w_simple_case {k : Nat} {d0 d1 : D} {s : Sto} {P : D → Sto → Prop} (h : Wp (evSs (callF T k) b_simple_case [some d0, some d1, none, none] s) fun fl s2 => Wp (gcFl .raw s fl s2) P) : Wp (callF T (k + 1) .f_simple_case [d0, d1] s) P := wp_call rfl h
theorem w_part_count {k : Nat} {d0 d1 : D} {s : Sto} {P : D → Sto → Prop} (h : Wp (evSs (callF T k) b_part_count [some d0, some d1] s) fun fl s2 => Wp (gcFl .raw s fl s2) P) : Wp (callF T (k + 1) .f_part_count [d0, d1] s) P := wp_call rfl h
theorem w_simple_count {k : Nat} {d0 d1 d2 : D} {s : Sto} {P : D → Sto → Prop} (h : Wp (evSs (callF T k) b_simple_count [some d0, some d1, some d2, none, none, none, none] s) fun fl s2 => Wp (gcFl .raw s fl s2) P) : Wp (callF T (k + 1) .f_simple_count [d0, d1, d2] s) P := wp_call rfl h
theorem w_simple_counts {k : Nat} {d0 d1 : D} {s : Sto} {P : D → Sto → Prop} (h : Wp (evSs (callF T k) b_simple_counts [some d0, some d1, none, none, none, none] s) fun fl s2 => Wp (gcFl .raw s fl s2) P) : Wp (callF T (k + 1) .f_simple_counts [d0, d1] s) P := wp_call rfl h
theorem w_are_bounded {k : Nat} {d0 : D} {s : Sto} {P : D → Sto → Prop} (h : Wp (evSs (callF T k) b_are_bounded [some d0, none, none, none] s) fun fl s2 => Wp (gcFl .pur s fl s2) P) : Wp (callF T (k + 1) .f_are_bounded [d0] s) P := wp_call rfl h
theorem w_is_valid {k : Nat} {d0 : D} {s : Sto} {P : D → Sto → Prop} (h : Wp (evSs (callF T k) b_is_valid [some d0] s) fun fl s2 => Wp (gcFl .raw s fl s2) P) : Wp (callF T (k + 1) .f_is_valid [d0] s) P := wp_call rfl h
theorem w_law_cell {k : Nat} {d0 d1 : D} {s : Sto} {P : D → Sto → Prop} (h : Wp (evSs (callF T k) b_law_cell [some d0, some d1] s) fun fl s2 => Wp (gcFl .raw s fl s2) P) : Wp (callF T (k + 1) .f_law_cell [d0, d1] s) P := wp_call rfl h
theorem w_law_draws {k : Nat} {d0 : D} {s : Sto} {P : D → Sto → Prop} (h : Wp (evSs (callF T k) b_law_draws [some d0, none, none, none, none, none] s) fun fl s2 => Wp (gcFl .raw s fl s2) P) : Wp (callF T (k + 1) .f_law_draws [d0] s) P := wp_call rfl h
theorem w_law_next {k : Nat} {d0 d1 : D} {s : Sto} {P : D → Sto → Prop} (h : Wp (evSs (callF T k) b_law_next [some d0, some d1, none, none] s) fun fl s2 => Wp (gcFl .raw s fl s2) P) : Wp (callF T (k + 1) .f_law_next [d0, d1] s) P := wp_call rfl h
theorem w_law_big {k : Nat} {d0 : D} {s : Sto} {P : D → Sto → Prop} (h : Wp (evSs (callF T k) b_law_big [some d0, none, none] s) fun fl s2 => Wp (gcFl .raw s fl s2) P) : Wp (callF T (k + 1) .f_law_big [d0] s) P := wp_call rfl h
theorem w_law_char {k : Nat} {d0 : D} {s : Sto} {P : D → Sto → Prop} (h : Wp (evSs (callF T k) b_law_char [some d0, none] s) fun fl s2 => Wp (gcFl .raw s fl s2) P) : Wp (callF T (k + 1) .f_law_char [d0] s) P := wp_call rfl h
theorem w_law_ids {k : Nat} {d0 d1 : D} {s : Sto} {P : D → Sto → Prop} (h : Wp (evSs (callF T k) b_law_ids [some d0, some d1, none, none, none] s) fun fl s2 => Wp (gcFl .raw s fl s2) P) : Wp (callF T (k + 1) .f_law_ids [d0, d1] s) P := wp_call rfl h
theorem w_law_split {k : Nat} {d0 d1 : D} {s : Sto} {P : D → Sto → Prop} (h : Wp (evSs (callF T k) b_law_split [some d0, some d1, none, none, none] s) fun fl s2 => Wp (gcFl .raw s fl s2) P) : Wp (callF T (k + 1) .f_law_split [d0, d1] s) P := wp_call rfl h
theorem w_law_leaf {k : Nat} {d0 : D} {s : Sto} {P : D → Sto → Prop} (h : Wp (evSs (callF T k) b_law_leaf [some d0, none, none, none, none, none] s) fun fl s2 => Wp (gcFl .«mut» s fl s2) P) : Wp (callF T (k + 1) .f_law_leaf [d0] s) P := wp_call rfl h
theorem w_law_leaf_value {k : Nat} {d0 d1 : D} {s : Sto} {P : D → Sto → Prop} (h : Wp (evSs (callF T k) b_law_leaf_value [some d0, some d1, none, none, none, none] s) fun fl s2 => Wp (gcFl .«mut» s fl s2) P) : Wp (callF T (k + 1) .f_law_leaf_value [d0, d1] s) P := wp_call rfl h
theorem w_law_part {k : Nat} {d0 d1 : D} {s : Sto} {P : D → Sto → Prop} (h : Wp (evSs (callF T k) b_law_part [some d0, some d1] s) fun fl s2 => Wp (gcFl .raw s fl s2) P) : Wp (callF T (k + 1) .f_law_part [d0, d1] s) P := wp_call rfl h
theorem w_law_list_body {k : Nat} {d0 d1 d2 : D} {s : Sto} {P : D → Sto → Prop} (h : Wp (evSs (callF T k) b_law_list_body [some d0, some d1, some d2, none, none, none] s) fun fl s2 => Wp (gcFl .raw s fl s2) P) : Wp (callF T (k + 1) .f_law_list_body [d0, d1, d2] s) P := wp_call rfl h
theorem w_law_record_body {k : Nat} {d0 d1 d2 : D} {s : Sto} {P : D → Sto → Prop} (h : Wp (evSs (callF T k) b_law_record_body [some d0, some d1, some d2, none, none, none, none, none, none] s) fun fl s2 => Wp (gcFl .«mut» s fl s2) P) : Wp (callF T (k + 1) .f_law_record_body [d0, d1, d2] s) P := wp_call rfl h
theorem w_law_union_body {k : Nat} {d0 d1 d2 : D} {s : Sto} {P : D → Sto → Prop} (h : Wp (evSs (callF T k) b_law_union_body [some d0, some d1, some d2, none, none, none, none, none, none] s) fun fl s2 => Wp (gcFl .«mut» s fl s2) P) : Wp (callF T (k + 1) .f_law_union_body [d0, d1, d2] s) P := wp_call rfl h
theorem w_law_schema {k : Nat} {d0 : D} {s : Sto} {P : D → Sto → Prop} (h : Wp (evSs (callF T k) b_law_schema [some d0, none, none, none, none, none, none, none] s) fun fl s2 => Wp (gcFl .«mut» s fl s2) P) : Wp (callF T (k + 1) .f_law_schema [d0] s) P := wp_call rfl h
theorem w_law_with_body {k : Nat} {d0 d1 d2 : D} {s : Sto} {P : D → Sto → Prop} (h : Wp (evSs (callF T k) b_law_with_body [some d0, some d1, some d2, none, none] s) fun fl s2 => Wp (gcFl .pur s fl s2) P) : Wp (callF T (k + 1) .f_law_with_body [d0, d1, d2] s) P := wp_call rfl h
theorem w_law_same {k : Nat} {d0 d1 : D} {s : Sto} {P : D → Sto → Prop} (h : Wp (evSs (callF T k) b_law_same [some d0, some d1, none] s) fun fl s2 => Wp (gcFl .raw s fl s2) P) : Wp (callF T (k + 1) .f_law_same [d0, d1] s) P := wp_call rfl h
theorem w_law {k : Nat} {d0 : D} {s : Sto} {P : D → Sto → Prop} (h : Wp (evSs (callF T k) b_law [some d0, none, none, none, none, none, none, none, none] s) fun fl s2 => Wp (gcFl .raw s fl s2) P) : Wp (callF T (k + 1) .f_law [d0] s) P := wp_call rfl h
def Ns : F → List Str
  | .f_are_ascending_ids => ["ids", "last", "number"]
  | .f_have_common => ["first", "second", "number"]
  | .f_are_valid_ids => ["live", "retired", "is_open"]
  | .f_is_valid_leaf => ["leaf"]
  | .f_is_allowed_code => ["code"]
  | .f_is_text => ["value", "char"]
  | .f_is_leaf_value => ["leaf", "value"]
  | .f_is_name => ["part"]
  | .f_body_of => ["schema", "name", "own", "body"]
  | .f_with_body => ["schema", "name", "body", "definitions", "own", "old"]
  | .f_live_ids => ["body", "one"]
  | .f_is_valid_name => ["name", "char"]
  | .f_is_valid_part => ["names", "part"]
  | .f_is_valid_field => ["names", "field", "_", "part", "mode", "default"]
  | .f_is_valid_body => ["names", "body", "live", "field", "case"]
  | .f_is_described => ["schema", "names", "name", "_", "body"]
  | .f_is_known => ["part", "depths"]
  | .f_part_depth => ["part", "depths"]
  | .f_has_value => ["body", "depths", "_", "part", "mode"]
  | .f_least_depths => ["schema", "depths", "level", "found", "name", "body"]
  | .f_simple_case => ["body", "depths", "best", "case"]
  | .f_part_count => ["part", "counts"]
  | .f_simple_count => ["body", "depths", "counts", "total", "_", "part", "mode"]
  | .f_simple_counts => ["schema", "depths", "counts", "level", "name", "body"]
  | .f_are_bounded => ["schema", "depths", "counts", "name"]
  | .f_is_valid => ["schema"]
  | .f_law_cell => ["_law_script", "_law_k"]
  | .f_law_draws => ["_law_cell_here", "_law_row", "_law_rest", "_law_mixed", "_law_is_great", "_law_k"]
  | .f_law_next => ["_law_draws_here", "_law_many", "_law_at", "_law_row"]
  | .f_law_big => ["_law_draws_here", "_law_number", "_law_k"]
  | .f_law_char => ["_law_k", "_law_chars"]
  | .f_law_ids => ["_law_draws_here", "_law_most", "_law_ids_here", "_law_number", "_law_k"]
  | .f_law_split => ["_law_draws_here", "_law_ids_here", "_law_live", "_law_retired", "_law_number"]
  | .f_law_leaf => ["_law_draws_here", "_law_kind", "_law_low", "_law_high", "_law_parted", "_law_is_open"]
  | .f_law_leaf_value => ["_law_leaf_here", "_law_draws_here", "_law_pick", "_law_size", "_law_k", "_law_symbols"]
  | .f_law_part => ["_law_draws_here", "_law_names"]
  | .f_law_list_body => ["_law_draws_here", "_law_names", "_law_later", "_law_low", "_law_part_here", "_law_high"]
  | .f_law_record_body => ["_law_draws_here", "_law_names", "_law_later", "_law_parted", "_law_fields", "_law_is_free", "_law_number", "_law_part_here", "_law_pick"]
  | .f_law_union_body => ["_law_draws_here", "_law_names", "_law_later", "_law_parted", "_law_cases", "_law_number", "_law_safe", "_law_case", "_law_is_open"]
  | .f_law_schema => ["_law_draws_here", "_law_count", "_law_names", "_law_definitions", "_law_k", "_law_kind", "_law_later", "_law_body"]
  | .f_law_with_body => ["_law_schema_here", "_law_name", "_law_body", "_law_definitions", "_law_definition"]
  | .f_law_same => ["_law_actual", "_law_expected", "_law_k"]
  | .f_law => ["_law_script", "_law_schema_here", "_law_draws_here", "_law_many", "_law_name", "_law_body", "_law_changed", "_law_definition", "_law_expected"]
def Ps : F → List Str
  | .f_are_ascending_ids => ["ids"]
  | .f_have_common => ["first", "second"]
  | .f_are_valid_ids => ["live", "retired", "is_open"]
  | .f_is_valid_leaf => ["leaf"]
  | .f_is_allowed_code => ["code"]
  | .f_is_text => ["value"]
  | .f_is_leaf_value => ["leaf", "value"]
  | .f_is_name => ["part"]
  | .f_body_of => ["schema", "name"]
  | .f_with_body => ["schema", "name", "body"]
  | .f_live_ids => ["body"]
  | .f_is_valid_name => ["name"]
  | .f_is_valid_part => ["names", "part"]
  | .f_is_valid_field => ["names", "field"]
  | .f_is_valid_body => ["names", "body"]
  | .f_is_described => ["schema"]
  | .f_is_known => ["part", "depths"]
  | .f_part_depth => ["part", "depths"]
  | .f_has_value => ["body", "depths"]
  | .f_least_depths => ["schema"]
  | .f_simple_case => ["body", "depths"]
  | .f_part_count => ["part", "counts"]
  | .f_simple_count => ["body", "depths", "counts"]
  | .f_simple_counts => ["schema", "depths"]
  | .f_are_bounded => ["schema"]
  | .f_is_valid => ["schema"]
  | .f_law_cell => ["_law_script", "_law_k"]
  | .f_law_draws => ["_law_cell_here"]
  | .f_law_next => ["_law_draws_here", "_law_many"]
  | .f_law_big => ["_law_draws_here"]
  | .f_law_char => ["_law_k"]
  | .f_law_ids => ["_law_draws_here", "_law_most"]
  | .f_law_split => ["_law_draws_here", "_law_ids_here"]
  | .f_law_leaf => ["_law_draws_here"]
  | .f_law_leaf_value => ["_law_leaf_here", "_law_draws_here"]
  | .f_law_part => ["_law_draws_here", "_law_names"]
  | .f_law_list_body => ["_law_draws_here", "_law_names", "_law_later"]
  | .f_law_record_body => ["_law_draws_here", "_law_names", "_law_later"]
  | .f_law_union_body => ["_law_draws_here", "_law_names", "_law_later"]
  | .f_law_schema => ["_law_draws_here"]
  | .f_law_with_body => ["_law_schema_here", "_law_name", "_law_body"]
  | .f_law_same => ["_law_actual", "_law_expected"]
  | .f_law => ["_law_script"]
def Ix : F → Nat
  | .f_are_ascending_ids => 5
  | .f_have_common => 6
  | .f_are_valid_ids => 7
  | .f_is_valid_leaf => 8
  | .f_is_allowed_code => 9
  | .f_is_text => 10
  | .f_is_leaf_value => 11
  | .f_is_name => 17
  | .f_body_of => 18
  | .f_with_body => 19
  | .f_live_ids => 20
  | .f_is_valid_name => 21
  | .f_is_valid_part => 22
  | .f_is_valid_field => 23
  | .f_is_valid_body => 24
  | .f_is_described => 25
  | .f_is_known => 26
  | .f_part_depth => 27
  | .f_has_value => 28
  | .f_least_depths => 29
  | .f_simple_case => 30
  | .f_part_count => 31
  | .f_simple_count => 32
  | .f_simple_counts => 33
  | .f_are_bounded => 34
  | .f_is_valid => 35
  | .f_law_cell => 38
  | .f_law_draws => 39
  | .f_law_next => 40
  | .f_law_big => 41
  | .f_law_char => 42
  | .f_law_ids => 43
  | .f_law_split => 44
  | .f_law_leaf => 45
  | .f_law_leaf_value => 46
  | .f_law_part => 47
  | .f_law_list_body => 48
  | .f_law_record_body => 49
  | .f_law_union_body => 50
  | .f_law_schema => 51
  | .f_law_with_body => 52
  | .f_law_same => 53
  | .f_law => 54
end SB.K61
end

section
set_option maxHeartbeats 1000000
namespace SB.K61
open PySem SB.Ev
/-! ### the data -/
inductive Leaf | num (lo hi : Int) | txt (lo hi : Int) | cho (live ret : List Int) (opn : Bool)
inductive Part | nam (z : Str) | lf (l : Leaf)
inductive Mode | req | opt | dfl
inductive Dv | non | int (i : Int) | str (z : Str)
structure Fld where
  id : Int
  part : Part
  mode : Mode
  dv : Dv
inductive Body | lst (p : Part) (lo hi : Int) | recd (fs : List Fld) (ret : List Int) | uni (cs : List (Int × Part)) (ret : List Int) (opn : Bool)
structure Sch where
  root : Str
  defs : List (Str × Body)
def Leaf.d : Leaf → D
  | .num lo hi => .tup [.str "number", .int lo, .int hi]
  | .txt lo hi => .tup [.str "text", .int lo, .int hi]
  | .cho live ret opn => .tup [.str "choice", .tup (live.map .int), .tup (ret.map .int), .bl opn]
def Part.d : Part → D
  | .nam z => .str z
  | .lf l => l.d
def Mode.s : Mode → Str
  | .req => "required" | .opt => "optional" | .dfl => "default"
def Dv.d : Dv → D
  | .non => .non | .int i => .int i | .str z => .str z
@[simp] theorem Leaf_d1 {lo hi : Int} : (Leaf.num lo hi).d = .tup [.str "number", .int lo, .int hi] := rfl
@[simp] theorem Leaf_d2 {lo hi : Int} : (Leaf.txt lo hi).d = .tup [.str "text", .int lo, .int hi] := rfl
@[simp] theorem Leaf_d3 {live ret : List Int} {opn : Bool} : (Leaf.cho live ret opn).d = .tup [.str "choice", .tup (live.map .int), .tup (ret.map .int), .bl opn] := rfl
@[simp] theorem Part_d1 {z : Str} : (Part.nam z).d = .str z := rfl
@[simp] theorem Part_d2 {l : Leaf} : (Part.lf l).d = l.d := rfl
@[simp] theorem Mode_s1 : Mode.req.s = "required" := rfl
@[simp] theorem Mode_s2 : Mode.opt.s = "optional" := rfl
@[simp] theorem Mode_s3 : Mode.dfl.s = "default" := rfl
@[simp] theorem Dv_d1 : Dv.non.d = .non := rfl
@[simp] theorem Dv_d2 {i : Int} : (Dv.int i).d = .int i := rfl
@[simp] theorem Dv_d3 {z : Str} : (Dv.str z).d = .str z := rfl
def Fld.d (f : Fld) : D := .tup [.int f.id, f.part.d, .str f.mode.s, f.dv.d]
def cas (c : Int × Part) : D := .tup [.int c.1, c.2.d]
def Body.d : Body → D
  | .lst p lo hi => .tup [.str "list", p.d, .int lo, .int hi]
  | .recd fs ret => .tup [.str "record", .tup (fs.map Fld.d), .tup (ret.map .int)]
  | .uni cs ret opn => .tup [.str "union", .tup (cs.map cas), .tup (ret.map .int), .bl opn]
@[simp] theorem Body_d1 {p : Part} {lo hi : Int} : (Body.lst p lo hi).d = .tup [.str "list", p.d, .int lo, .int hi] := rfl
@[simp] theorem Body_d2 {fs : List Fld} {ret : List Int} : (Body.recd fs ret).d = .tup [.str "record", .tup (fs.map Fld.d), .tup (ret.map .int)] := rfl
@[simp] theorem Body_d3 {cs : List (Int × Part)} {ret : List Int} {opn : Bool} : (Body.uni cs ret opn).d = .tup [.str "union", .tup (cs.map cas), .tup (ret.map .int), .bl opn] := rfl
def dfn (p : Str × Body) : D := .tup [.str p.1, p.2.d]
def Sch.d (c : Sch) : D := .tup [.str c.root, .tup (c.defs.map dfn)]
/-! ### leaves -/
section
variable {C : F → List D → Sto → R D} {s : Sto} {P : Fl → Sto → Prop}
def asc (last : Int) : List Int → Bool
  | [] => true
  | a :: l => (decide (last < a) && decide (a ≤ 99)) && asc a l
theorem asc_loop (d0 : D) : ∀ (l : List Int) (last : Int) (x : Option D), (∀ env, asc last l = true → P (.nx env) s) → (asc last l = false → P (.ret (.bl false)) s) →
    Wp (forB C [2] true l_are_ascending_ids_1 none (l.map D.int) [some d0, some (.int last), x] s) P := by
  intro l
  induction l with
  | nil => intro last x h1 h2; simp [-List.map_map, forB_nil]; exact h1 _ rfl
  | cons a l ih =>
    intro last x h1 h2
    simp [-List.map_map, forB_cons]
    by_cases e1 : last < a <;> by_cases e2 : 99 < a <;> simp [-List.map_map, e1, e2]
    · exact h2 (by simp [-List.map_map, asc, e1]; omega)
    · have e3 : a ≤ 99 := by omega
      exact ih a _ (fun env h => h1 env (by simp [-List.map_map, asc, e1, e3, h])) fun h => h2 (by simp [-List.map_map, asc, e1, e3, h])
    · exact h2 (by simp [-List.map_map, asc, e1])
    · exact h2 (by simp [-List.map_map, asc, e1])
@[simp] theorem asc_ok (k : Nat) (l : List Int) (s : Sto) : callF T (k + 1) .f_are_ascending_ids [.tup (l.map D.int)] s = .ok (.bl (asc 0 l)) s := by
  apply Wp.eq
  apply wp_call rfl
  simp [-List.map_map]
  refine asc_loop _ l 0 none (fun env h => ?_) fun h => ?_
  · simp [-List.map_map, h]
  · simp [-List.map_map, h]
def com (l r : List Int) : Bool := l.any fun x => r.contains x
theorem com_cons (a : Int) (l r : List Int) : com (a :: l) r = (r.contains a || com l r) := rfl
theorem com_loop (d0 : D) (r : List Int) : ∀ (l : List Int) (x : Option D), (∀ env, com l r = false → P (.nx env) s) → (com l r = true → P (.ret (.bl true)) s) →
    Wp (forB C [2] true l_have_common_1 none (l.map D.int) [some d0, some (.tup (r.map D.int)), x] s) P := by
  intro l
  induction l with
  | nil => intro x h1 h2; simp [-List.map_map, forB_nil]; exact h1 _ rfl
  | cons a l ih =>
    intro x h1 h2
    simp [-List.map_map, forB_cons]
    by_cases e1 : a ∈ r <;> simp [-List.map_map, e1]
    · exact h2 (by simp [-List.map_map, com_cons, e1])
    · exact ih _ (fun env h => h1 env (by simp [-List.map_map, com_cons, e1, h])) fun h => h2 (by simp [-List.map_map, com_cons, e1, h])
@[simp] theorem com_ok (k : Nat) (l r : List Int) (s : Sto) : callF T (k + 1) .f_have_common [.tup (l.map D.int), .tup (r.map D.int)] s = .ok (.bl (com l r)) s := by
  apply Wp.eq
  apply wp_call rfl
  simp [-List.map_map]
  refine com_loop _ r l none (fun env h => ?_) fun h => ?_
  · simp [-List.map_map, h]
  · simp [-List.map_map, h]
def idsOk (l r : List Int) (o : Bool) : Bool := asc 0 l && (asc 0 r && !com l r) && (o || (r.isEmpty && !l.isEmpty))
@[simp] theorem ids_ok (k : Nat) (l r : List Int) (o : Bool) (s : Sto) : callF T (k + 2) .f_are_valid_ids [.tup (l.map D.int), .tup (r.map D.int), .bl o] s = .ok (.bl (idsOk l r o)) s := by
  apply Wp.eq
  apply wp_call rfl
  simp [-List.map_map]
  unfold idsOk
  cases asc 0 l <;> cases asc 0 r <;> cases com l r <;> cases o <;> simp [-List.map_map]
  cases r <;> cases l <;> simp [-List.map_map]
def Leaf.ok : Leaf → Bool
  | .num lo hi => decide (-1000000000000000 ≤ lo) && (decide (lo ≤ hi) && decide (hi ≤ 1000000000000000))
  | .txt lo hi => decide (0 ≤ lo) && (decide (lo ≤ hi) && decide (hi ≤ 40))
  | .cho l r o => idsOk l r o
@[simp] theorem leaf_ok (k : Nat) (l : Leaf) (s : Sto) : callF T (k + 3) .f_is_valid_leaf [l.d] s = .ok (.bl l.ok) s := by
  apply Wp.eq
  apply wp_call rfl
  cases l with
  | num lo hi =>
    simp [-List.map_map, Leaf.ok]
    by_cases h1 : -1000000000000000 ≤ lo <;> by_cases h2 : lo ≤ hi <;> simp [-List.map_map, h1, h2]
  | txt lo hi =>
    simp [-List.map_map, Leaf.ok]
    by_cases h1 : 0 ≤ lo <;> by_cases h2 : lo ≤ hi <;> simp [-List.map_map, h1, h2]
  | cho a b o => simp [-List.map_map, Leaf.ok]
def codeOk (c : Nat) : Bool := decide (32 ≤ c) && (decide (c ≤ 126) && decide (c ≠ 37))
@[simp] theorem code_ok (k : Nat) (c : Nat) (s : Sto) : callF T (k + 1) .f_is_allowed_code [.int c] s = .ok (.bl (codeOk c)) s := by
  apply Wp.eq
  apply wp_call rfl
  simp [-List.map_map, codeOk]
  by_cases h1 : 32 ≤ c <;> by_cases h2 : c ≤ 126 <;> by_cases h3 : c = 37 <;> simp [-List.map_map, h1, h2, h3] <;> omega

theorem text_loop (k : Nat) (d0 : D) : ∀ (l : List Nat) (x : Option D), (∀ env, l.all codeOk = true → P (.nx env) s) → (l.all codeOk = false → P (.ret (.bl false)) s) →
    Wp (forB (callF T (k + 1)) [1] true l_is_text_1 none (l.map fun c => .str ⟨#[c]⟩) [some d0, x] s) P := by
  intro l
  induction l with
  | nil => intro x h1 h2; simp [-List.map_map, forB_nil]; exact h1 _ rfl
  | cons a l ih =>
    intro x h1 h2
    simp [-List.map_map, forB_cons, Str.length]
    by_cases e1 : codeOk a = true <;> simp [-List.map_map, e1]
    · exact ih _ (fun env h => h1 env (by rw [List.all_cons, e1, h]; rfl)) fun h => h2 (by rw [List.all_cons, e1, h]; rfl)
    · exact h2 (by rw [List.all_cons]; simp [-List.map_map, e1])
def txtOk (z : Str) : Bool := z.cps.toList.all codeOk
def isStr : D → Bool
  | .str _ => true
  | _ => false
@[simp] theorem text_ok (k : Nat) (z : Str) (s : Sto) : callF T (k + 2) .f_is_text [.str z] s = .ok (.bl (txtOk z)) s := by
  apply Wp.eq
  apply wp_call rfl
  simp [-List.map_map]
  refine text_loop _ _ _ none (fun env h => ?_) fun h => ?_
  · simp [-List.map_map, txtOk, h]
  · simp [-List.map_map, txtOk, h]
@[simp] theorem text_non (k : Nat) (s : Sto) : callF T (k + 2) .f_is_text [.non] s = .ok (.bl false) s := by
  apply Wp.eq
  apply wp_call rfl
  simp [-List.map_map]
@[simp] theorem text_int (k : Nat) (i : Int) (s : Sto) : callF T (k + 2) .f_is_text [.int i] s = .ok (.bl false) s := by
  apply Wp.eq
  apply wp_call rfl
  simp [-List.map_map]
def leafVal : Leaf → Dv → Bool
  | .txt lo hi, .str z => txtOk z && (decide (lo ≤ z.length) && decide ((z.length : Int) ≤ hi))
  | .num lo hi, .int i => decide (lo ≤ i) && decide (i ≤ hi)
  | .cho l _ o, .int i => l.contains i || (decide (i = 0) && o)
  | _, _ => false
def Dv.fit : Dv → Prop
  | .str z => z.length ≤ 16777216
  | _ => True
@[simp] theorem leafVal_ok (k : Nat) (l : Leaf) (v : Dv) (h : v.fit) (s : Sto) : callF T (k + 3) .f_is_leaf_value [l.d, v.d] s = .ok (.bl (leafVal l v)) s := by
  apply Wp.eq
  apply wp_call rfl
  cases l with
  | num lo hi =>
    cases v with
    | non => simp [-List.map_map, leafVal]
    | int i =>
      simp [-List.map_map, leafVal]
      by_cases h1 : lo ≤ i <;> simp [-List.map_map, h1]
    | str z => simp [-List.map_map, leafVal]
  | txt lo hi =>
    cases v with
    | non => simp [-List.map_map, leafVal]
    | int i => simp [-List.map_map, leafVal]
    | str z =>
      have h0 : z.length ≤ 16777216 := h
      simp [-List.map_map, leafVal, h0]
      by_cases h2 : txtOk z = true <;> by_cases h1 : lo ≤ z.length <;> simp [-List.map_map, h1, h2]
  | cho a b o =>
    cases v with
    | non => simp [-List.map_map, leafVal]
    | int i =>
      simp [-List.map_map, leafVal]
      by_cases h1 : i ∈ a <;> by_cases h2 : i = 0 <;> cases o <;> simp [-List.map_map, h1, h2]
    | str z => simp [-List.map_map, leafVal]
/-! ### parts, fields, bodies -/
def Part.nm? : Part → Bool
  | .nam _ => true
  | _ => false
@[simp] theorem isname_ok (k : Nat) (p : Part) (s : Sto) : callF T (k + 1) .f_is_name [p.d] s = .ok (.bl p.nm?) s := by
  apply Wp.eq
  apply wp_call rfl
  cases p with
  | nam z => simp [-List.map_map, Part.nm?]
  | lf l => cases l <;> simp [-List.map_map, Part.nm?]
def Part.ok (ns : List Str) : Part → Bool
  | .nam z => ns.contains z
  | .lf l => l.ok
theorem part_ok (k : Nat) (ns : List Str) (p : Part) (r : Nat) (s : Sto) (hr : s[r]? = some (.lst (ns.map .str))) : callF T (k + 4) .f_is_valid_part [.ref r, p.d] s = .ok (.bl (p.ok ns)) s := by
  apply Wp.eq
  apply wp_call rfl
  simp [-List.map_map]
  cases p with
  | nam z => simp [-List.map_map, Part.nm?, Part.ok, c_in_rs hr]
  | lf l => simp [-List.map_map, Part.nm?, Part.ok]
def Leaf.cho? : Leaf → Bool
  | .cho _ _ _ => true
  | _ => false
def Fld.ok (ns : List Str) (f : Fld) : Bool := f.part.ok ns && (match f.mode, f.part, f.dv with
  | .dfl, .lf l, v => !l.cho? && leafVal l v
  | .dfl, _, _ => false
  | _, _, .non => true
  | _, _, _ => false)
theorem field_ok (k : Nat) (ns : List Str) (f : Fld) (hf : f.dv.fit) (r : Nat) (s : Sto) (hr : s[r]? = some (.lst (ns.map .str))) : callF T (k + 5) .f_is_valid_field [.ref r, f.d] s = .ok (.bl (f.ok ns)) s := by
  apply Wp.eq
  apply wp_call rfl
  obtain ⟨id, part, mode, dv⟩ := f
  simp [-List.map_map, Fld.d, part_ok _ ns _ r s hr]
  unfold Fld.ok
  by_cases h1 : part.ok ns = true
  · simp only [h1]
    cases mode with
    | req => cases dv <;> simp [-List.map_map]
    | opt => cases dv <;> simp [-List.map_map]
    | dfl =>
      cases part with
      | nam z => simp [-List.map_map, Part.nm?]
      | lf l =>
        have h2 := leafVal_ok (k + 1) l dv hf s
        cases l <;> simp [-List.map_map, Part.nm?, Leaf.cho?] at h2 ⊢ <;> simp [-List.map_map, h2] <;> (intro _; exact h1)
  · simp [-List.map_map, h1]
theorem allE {α : Type} {f : α → D} {C : F → List D → Sto → R D} {tg : List Nat} {one : Bool} {b : Sxs F} {w : Option (Nat × List D)} {P : Fl → Sto → Prop} {s : Sto} {env : Env} (p : α → Bool) (J : Env → Prop) (l : List α) (hJ : J env) (hw : watch w s = true)
    (hb : ∀ a env, a ∈ l → J env → ∃ env2, bindT tg one (f a) env = some env2 ∧ Wp (evSs C b env2 s) fun fl s' => s' = s ∧ if p a = true then ∃ e, fl = .nx e ∧ J e else fl = .ret (.bl false))
    (h1 : ∀ env, J env → l.all p = true → P (.nx env) s) (h2 : l.all p = false → P (.ret (.bl false)) s) : Wp (forB C tg one b w (l.map f) env s) P := by
  refine for_inv f (fun r env s' => s' = s ∧ J env ∧ (∀ a ∈ r, a ∈ l) ∧ l.all p = r.all p) ?_ ?_ l env s ⟨rfl, hJ, fun _ h => h, rfl⟩
  · rintro a r env s' ⟨rfl, hJ, hm, he⟩
    obtain ⟨env2, e1, e2⟩ := hb a env (hm a (List.mem_cons_self ..)) hJ
    refine ⟨hw, env2, e1, e2.imp fun fl s2 q => ?_⟩
    obtain ⟨rfl, q⟩ := q
    cases hp : p a with
    | true =>
      rw [hp, if_pos rfl] at q
      obtain ⟨e, rfl, hj⟩ := q
      exact ⟨rfl, hj, fun x hx => hm x (List.mem_cons_of_mem _ hx), by rw [he, List.all_cons, hp]; rfl⟩
    | false =>
      rw [hp, if_neg (by decide)] at q
      subst q
      exact h2 (by rw [he, List.all_cons, hp]; rfl)
  · rintro env s' ⟨rfl, hJ, _, he⟩
    exact ⟨hw, h1 env hJ he⟩
theorem live_rec (k : Nat) (fs : List Fld) (ret : List Int) (hl : fs.length ≤ 1000) (s : Sto) : callF T (k + 1) .f_live_ids [.tup [.str "record", .tup (fs.map Fld.d), .tup (ret.map .int)]] s = .ok (.tup ((fs.map (·.id)).map .int)) s := by
  apply Wp.eq
  apply wp_call rfl
  simp [-List.map_map]
  rw [lc_map fs Fld.d (fun f => .int f.id) rfl (fun a _ => by simp [-List.map_map, Fld.d])]
  have h2 : fs.length ≤ 16777216 := by omega
  have h3 : D.upTos s.length (fs.map fun f => D.int f.id) = true := by
    have := upTos_int (n := s.length) (fs.map (·.id))
    rwa [List.map_map] at this
  rw [List.map_map]
  simp [-List.map_map, h2, h3]
theorem live_uni (k : Nat) (cs : List (Int × Part)) (ret : List Int) (o : Bool) (hl : cs.length ≤ 1000) (s : Sto) : callF T (k + 1) .f_live_ids [.tup [.str "union", .tup (cs.map cas), .tup (ret.map .int), .bl o]] s = .ok (.tup ((cs.map (·.1)).map .int)) s := by
  apply Wp.eq
  apply wp_call rfl
  simp [-List.map_map]
  rw [lc_map cs cas (fun f => .int f.1) rfl (fun a _ => by simp [-List.map_map, cas])]
  have h2 : cs.length ≤ 16777216 := by omega
  have h3 : D.upTos s.length (cs.map fun f => D.int f.1) = true := by
    have := upTos_int (n := s.length) (cs.map (·.1))
    rwa [List.map_map] at this
  rw [List.map_map]
  simp [-List.map_map, h2, h3]
def Body.ok (ns : List Str) : Body → Bool
  | .lst p lo hi => p.ok ns && ((decide (0 ≤ lo) && (decide (lo ≤ hi) && decide (hi ≤ 99))) && decide (1 ≤ hi))
  | .recd fs ret => fs.all (·.ok ns) && (asc 0 (fs.map (·.id)) && (asc 0 ret && !com (fs.map (·.id)) ret))
  | .uni cs ret o => cs.all (fun c => c.2.ok ns) && idsOk (cs.map (·.1)) ret o
def Body.fit : Body → Prop
  | .lst _ _ _ => True
  | .recd fs _ => fs.length ≤ 1000 ∧ ∀ f ∈ fs, f.dv.fit
  | .uni cs _ _ => cs.length ≤ 1000
theorem body_ok (k : Nat) (ns : List Str) (b : Body) (hf : b.fit) (r : Nat) (s : Sto) (hr : s[r]? = some (.lst (ns.map .str))) : callF T (k + 6) .f_is_valid_body [.ref r, b.d] s = .ok (.bl (b.ok ns)) s := by
  apply Wp.eq
  apply wp_call rfl
  cases b with
  | lst p lo hi =>
    simp [-List.map_map, part_ok _ ns _ r s hr, Body.ok]
    by_cases h1 : p.ok ns = true <;> by_cases h2 : 0 ≤ lo <;> by_cases h3 : lo ≤ hi <;> by_cases h4 : hi ≤ 99 <;> simp [-List.map_map, h1, h2, h3, h4]
  | recd fs ret =>
    simp [-List.map_map, live_rec _ fs ret hf.1]
    refine allE (fun f : Fld => f.ok ns) (fun env => ∃ x, env = [some (.ref r), some (Body.recd fs ret).d, some (.tup ((fs.map (·.id)).map .int)), x, none]) fs ?_ watch_none (fun a env ha hj => ?_) (fun env hj h => ?_) fun h => ?_
    · exact ⟨none, by simp [-List.map_map]⟩
    · obtain ⟨x, rfl⟩ := hj
      simp [-List.map_map, field_ok _ ns a (hf.2 a ha) r s hr]
    · obtain ⟨x, rfl⟩ := hj
      simp [-List.map_map, Body.ok, h]
      cases asc 0 (fs.map (·.id)) <;> cases asc 0 ret <;> simp [-List.map_map]
    · simp [-List.map_map, Body.ok, h]
  | uni cs ret o =>
    simp [-List.map_map, live_uni _ cs ret o hf]
    refine allE (fun c : Int × Part => c.2.ok ns) (fun env => ∃ x, env = [some (.ref r), some (Body.uni cs ret o).d, some (.tup ((cs.map (·.1)).map .int)), none, x]) cs ?_ watch_none (fun a env ha hj => ?_) (fun env hj h => ?_) fun h => ?_
    · exact ⟨none, by simp [-List.map_map]⟩
    · obtain ⟨x, rfl⟩ := hj
      simp [-List.map_map, cas, part_ok _ ns _ r s hr]
    · obtain ⟨x, rfl⟩ := hj
      simp [-List.map_map, Body.ok, h]
    · simp [-List.map_map, Body.ok, h]
def chOk (c : Nat) : Bool := decide (97 ≤ c) && decide (c ≤ 122)
def nmOk (z : Str) : Bool := z.cps.toList.all chOk && (decide (1 ≤ z.length) && decide (z.length ≤ 12))
theorem name_ok (k : Nat) (z : Str) (hz : z.length ≤ 1000) (s : Sto) : callF T (k + 1) .f_is_valid_name [.str z] s = .ok (.bl (nmOk z)) s := by
  apply Wp.eq
  apply wp_call rfl
  have hz2 : z.length ≤ 16777216 := by omega
  simp [-List.map_map]
  refine allE (f := fun c : Nat => .str ⟨#[c]⟩) chOk (fun env => ∃ x, env = [some (.str z), x]) z.cps.toList ?_ watch_none (fun a env ha hj => ?_) (fun env hj h => ?_) fun h => ?_
  · exact ⟨none, rfl⟩
  · obtain ⟨x, rfl⟩ := hj
    simp [-List.map_map, cps_of, le1, chOk]
    by_cases h1 : 97 ≤ a <;> by_cases h2 : a ≤ 122 <;> simp [-List.map_map, h1, h2] <;> omega
  · obtain ⟨x, rfl⟩ := hj
    have i1 : ((1 : Int) ≤ (z.length : Int)) = (1 ≤ z.length) := by simp only [eq_iff_iff]; omega
    have i2 : ((z.length : Int) ≤ 12) = (z.length ≤ 12) := by simp only [eq_iff_iff]; omega
    simp [-List.map_map, hz2, nmOk, h, i1, i2]
    by_cases h1 : 1 ≤ z.length <;> by_cases h2 : z.length ≤ 12 <;> simp [-List.map_map, h1, h2]
  · simp [-List.map_map, nmOk, h]
/-! ### a schema as it is described -/
def Sch.ns (c : Sch) : List Str := c.defs.map (·.1)
def Sch.desc (c : Sch) : Bool := (decide (1 ≤ c.defs.length) && decide (c.defs.length ≤ 8)) && (decide (c.ns.foldr insS [] = c.ns) && (c.ns.contains c.root && c.defs.all fun p => nmOk p.1 && p.2.ok c.ns))
structure Sch.Fit (c : Sch) : Prop where
  len : c.defs.length ≤ 60
  nm : ∀ p ∈ c.defs, p.1.length ≤ 1000
  body : ∀ p ∈ c.defs, p.2.fit
theorem allStr_map (l : List Str) : allStr (l.map D.str) = some l := by
  induction l with
  | nil => rfl
  | cons a l ih => simp [-List.map_map, allStr, ih]
theorem peqs_str (a b : List Str) : peqs (a.map D.str) (b.map D.str) = decide (a = b) := by
  induction a generalizing b with
  | nil => cases b <;> simp [-List.map_map, peqs]
  | cons x a ih =>
    cases b with
    | nil => simp [-List.map_map, peqs]
    | cons y b => simp [-List.map_map, peqs, peq, ih]
theorem sset_s {p : Nat} {l : List Str} (h : s[p]? = some (.lst (l.map .str))) (hl : l.length ≤ 60) : ssetOp (.ref p) s = alloc (.lst ((l.foldr insS []).map .str)) s := by
  simp [-List.map_map, ssetOp, lstAt, h, hl, allStr_map]
theorem desc_ok (k : Nat) (c : Sch) (hf : c.Fit) (s : Sto) : callF T (k + 7) .f_is_described [c.d] s = .ok (.bl c.desc) s := by
  apply Wp.eq
  apply wp_call rfl
  simp [-List.map_map, Sch.d]
  rw [lc_map c.defs dfn (fun p => .str p.1) rfl (fun a _ => by simp [-List.map_map, dfn])]
  have h1 : c.defs.length ≤ 16777216 := by have := hf.len; omega
  have e1 : c.defs.map (fun p => D.str p.1) = c.ns.map D.str := by simp [-List.map_map, Sch.ns, List.map_map]
  rw [e1]
  have e2 : c.ns.length = c.defs.length := by simp [-List.map_map, Sch.ns]
  have l0 : (s ++ [O.lst (c.ns.map D.str)])[s.length]? = some (.lst (c.ns.map D.str)) := by simp [-List.map_map]
  simp [-List.map_map, h1, len_ref, e2]
  by_cases g1 : 1 ≤ c.defs.length
  · have g1' : (1 : Int) ≤ c.defs.length := by omega
    by_cases g2 : c.defs.length ≤ 8
    · have g2' : (c.defs.length : Int) ≤ 8 := by omega
      rw [if_pos g1', if_neg (show ¬ (8 : Int) < (c.defs.length : Int) by omega), sset_s l0 (by omega)]
      have l1 : (s ++ [O.lst (c.ns.map D.str)] ++ [O.lst ((c.ns.foldr insS []).map D.str)])[s.length]? = some (.lst (c.ns.map D.str)) := by simp [-List.map_map]
      have l2 : (s ++ [O.lst (c.ns.map D.str)] ++ [O.lst ((c.ns.foldr insS []).map D.str)])[s.length + 1]? = some (.lst ((c.ns.foldr insS []).map D.str)) := by simp [-List.map_map]
      rw [alloc_eq, wp_ok, List.length_append, List.length_singleton]
      have ht : (s ++ [O.lst (c.ns.map D.str)] ++ [O.lst ((c.ns.foldr insS []).map D.str)]).take s.length = s := by simp [-List.map_map]
      generalize (s ++ [O.lst (c.ns.map D.str)] ++ [O.lst ((c.ns.foldr insS []).map D.str)]) = s2 at l1 l2 ht ⊢
      rw [c_ne_l l1 l2 (pures_str _) (pures_str _) (by rw [deeps_str]; omega), peqs_str]
      by_cases g3 : c.ns.foldr insS [] = c.ns
      · by_cases g4 : c.ns.contains c.root = true
        · have g4' : c.root ∈ c.ns := by simpa [-List.map_map] using g4
          simp [-List.map_map, c_notin_rs l1, g3, g4']
          refine allE (fun p : Str × Body => nmOk p.1 && p.2.ok c.ns) (fun env => ∃ x y, env = [some c.d, some (.ref s.length), x, none, y]) c.defs ?_ watch_none (fun a env ha hj => ?_) (fun env hj h => ?_) fun h => ?_
          · exact ⟨none, none, rfl⟩
          · obtain ⟨x, y, rfl⟩ := hj
            simp [-List.map_map, dfn, name_ok _ a.1 (hf.nm a ha)]
            rw [body_ok _ c.ns a.2 (hf.body a ha) s.length _ l1]
            cases nmOk a.1 <;> cases a.2.ok c.ns <;> simp [-List.map_map]
          · obtain ⟨x, y, rfl⟩ := hj
            have g4' : c.root ∈ c.ns := by simpa [-List.map_map] using g4
            simp [-List.map_map, Sch.desc, g1, g2, g3, g4', h, ht]
          · simp [-List.map_map, Sch.desc, h, ht]
        · have g4' : ¬ c.root ∈ c.ns := by simpa [-List.map_map] using g4
          simp [-List.map_map, c_notin_rs l1, g3, g4', Sch.desc, ht]
      · have g3' : ¬ c.ns = c.ns.foldr insS [] := fun z => g3 z.symm
        simp [-List.map_map, g3', Sch.desc, g3, ht]
    · have g2' : ¬ (c.defs.length : Int) ≤ 8 := by omega
      rw [if_pos g1', if_pos (show (8 : Int) < (c.defs.length : Int) by omega)]
      simp [-List.map_map, Sch.desc, g2]
  · have g1' : ¬ (1 : Int) ≤ c.defs.length := by omega
    rw [if_neg g1']
    simp [-List.map_map, Sch.desc, g1]
end
end SB.K61
end

section
set_option maxHeartbeats 1000000
namespace SB.K61
open PySem SB.Ev
/-! ### depths -/
abbrev Tb := List (Str × Int)
def dk (m : Tb) : List (DKey × D) := m.map fun q => (Sum.inr q.1, D.int q.2)
def look (m : Tb) (z : Str) : Option Int := (m.find? fun q => decide (q.1 = z)).map (·.2)
theorem valD_dk (m : Tb) (z : Str) : valD (dk m) (.inr z) = (look m z).map D.int := by
  unfold valD dk look
  induction m with
  | nil => rfl
  | cons a m ih =>
    rw [List.map_cons, List.find?_cons, List.find?_cons]
    by_cases h : a.1 = z
    · simp [-List.map_map, h]
    · have h' : ¬ ((Sum.inr a.1 : DKey) = Sum.inr z) := fun q => h (Sum.inr.inj q)
      simp only [h, h', decide_false]
      exact ih
def Part.known (m : Tb) : Part → Bool
  | .nam z => (look m z).isSome
  | .lf _ => true
def pd (m : Tb) : Part → Int
  | .nam z => (look m z).getD 0
  | .lf _ => 0
def Body.has (m : Tb) : Body → Bool
  | .lst p lo _ => decide (lo = 0) || p.known m
  | .recd fs _ => fs.all fun f => (match f.mode with | .req => f.part.known m | _ => true)
  | .uni cs _ o => o || cs.any fun c => c.2.known m
section
variable {s : Sto}
theorem known_ok (k : Nat) (p : Part) (m : Tb) (r : Nat) (lk : Bool) (s : Sto) (hr : s[r]? = some (.dct lk (dk m))) : callF T (k + 2) .f_is_known [p.d, .ref r] s = .ok (.bl (p.known m)) s := by
  apply Wp.eq
  apply wp_call rfl
  simp [-List.map_map]
  cases p with
  | nam z => simp [-List.map_map, Part.nm?, Part.known, c_in_d hr (show keyOf (.str z) = some (.inr z) from rfl), valD_dk]
  | lf l => simp [-List.map_map, Part.nm?, Part.known]
theorem pdep_ok (k : Nat) (p : Part) (m : Tb) (hk : p.known m = true) (r : Nat) (lk : Bool) (s : Sto) (hr : s[r]? = some (.dct lk (dk m))) : callF T (k + 2) .f_part_depth [p.d, .ref r] s = .ok (.int (pd m p)) s := by
  apply Wp.eq
  apply wp_call rfl
  simp [-List.map_map]
  cases p with
  | nam z =>
    simp [-List.map_map, Part.known] at hk
    obtain ⟨d, hd⟩ := Option.isSome_iff_exists.mp hk
    simp [-List.map_map, Part.nm?, pd, SB.Ev.ix_dct hr (show keyOf (.str z) = some (.inr z) from rfl), valD_dk, hd]
  | lf l => simp [-List.map_map, Part.nm?, pd]
theorem pcnt_ok (k : Nat) (p : Part) (m : Tb) (hk : p.known m = true) (r : Nat) (lk : Bool) (s : Sto) (hr : s[r]? = some (.dct lk (dk m))) : callF T (k + 2) .f_part_count [p.d, .ref r] s = .ok (.int (match p with | .nam z => (look m z).getD 0 | .lf _ => 1)) s := by
  apply Wp.eq
  apply wp_call rfl
  simp [-List.map_map]
  cases p with
  | nam z =>
    simp [-List.map_map, Part.known] at hk
    obtain ⟨d, hd⟩ := Option.isSome_iff_exists.mp hk
    simp [-List.map_map, Part.nm?, SB.Ev.ix_dct hr (show keyOf (.str z) = some (.inr z) from rfl), valD_dk, hd]
  | lf l => simp [-List.map_map, Part.nm?]
theorem anyE {α : Type} {f : α → D} {C : F → List D → Sto → R D} {tg : List Nat} {one : Bool} {b : Sxs F} {w : Option (Nat × List D)} {P : Fl → Sto → Prop} {env : Env} (p : α → Bool) (J : Env → Prop) (l : List α) (hJ : J env) (hw : watch w s = true)
    (hb : ∀ a env, a ∈ l → J env → ∃ env2, bindT tg one (f a) env = some env2 ∧ Wp (evSs C b env2 s) fun fl s' => s' = s ∧ if p a = true then fl = .ret (.bl true) else ∃ e, fl = .nx e ∧ J e)
    (h1 : ∀ env, J env → l.any p = false → P (.nx env) s) (h2 : l.any p = true → P (.ret (.bl true)) s) : Wp (forB C tg one b w (l.map f) env s) P := by
  refine for_inv f (fun r env s' => s' = s ∧ J env ∧ (∀ a ∈ r, a ∈ l) ∧ l.any p = r.any p) ?_ ?_ l env s ⟨rfl, hJ, fun _ h => h, rfl⟩
  · rintro a r env s' ⟨rfl, hJ, hm, he⟩
    obtain ⟨env2, e1, e2⟩ := hb a env (hm a (List.mem_cons_self ..)) hJ
    refine ⟨hw, env2, e1, e2.imp fun fl s2 q => ?_⟩
    obtain ⟨rfl, q⟩ := q
    cases hp : p a with
    | false =>
      rw [hp, if_neg (by decide)] at q
      obtain ⟨e, rfl, hj⟩ := q
      exact ⟨rfl, hj, fun x hx => hm x (List.mem_cons_of_mem _ hx), by rw [he, List.any_cons, hp]; rfl⟩
    | true =>
      rw [hp, if_pos rfl] at q
      subst q
      exact h2 (by rw [he, List.any_cons, hp]; rfl)
  · rintro env s' ⟨rfl, hJ, _, he⟩
    exact ⟨hw, h1 env hJ he⟩
theorem has_ok (k : Nat) (b : Body) (m : Tb) (r : Nat) (lk : Bool) (s : Sto) (hr : s[r]? = some (.dct lk (dk m))) : callF T (k + 3) .f_has_value [b.d, .ref r] s = .ok (.bl (b.has m)) s := by
  apply Wp.eq
  apply wp_call rfl
  cases b with
  | lst p lo hi =>
    simp [-List.map_map, known_ok _ p m r lk s hr, Body.has]
    by_cases h : lo = 0 <;> simp [-List.map_map, h]
  | recd fs ret =>
    simp [-List.map_map]
    refine allE (fun f : Fld => (match f.mode with | .req => f.part.known m | _ => true)) (fun env => ∃ x y z, env = [some (Body.recd fs ret).d, some (.ref r), x, y, z]) fs ?_ watch_none (fun a env ha hj => ?_) (fun env hj h => ?_) fun h => ?_
    · exact ⟨none, none, none, by simp [-List.map_map]⟩
    · obtain ⟨x, y, z, rfl⟩ := hj
      obtain ⟨id, part, mode, dv⟩ := a
      simp [-List.map_map, Fld.d]
      cases mode <;> simp [-List.map_map, known_ok _ part m r lk s hr]
    · obtain ⟨x, y, z, rfl⟩ := hj
      simp [-List.map_map, Body.has]
      simpa [-List.map_map] using h
    · simp [-List.map_map, Body.has]
      simpa [-List.map_map] using h
  | uni cs ret o =>
    simp [-List.map_map]
    cases o with
    | true => simp [-List.map_map, Body.has]
    | false =>
      simp [-List.map_map]
      refine anyE (fun c : Int × Part => c.2.known m) (fun env => ∃ x y z, env = [some (Body.uni cs ret false).d, some (.ref r), x, y, z]) cs ?_ watch_none (fun a env ha hj => ?_) (fun env hj h => ?_) fun h => ?_
      · exact ⟨none, none, none, by simp [-List.map_map]⟩
      · obtain ⟨x, y, z, rfl⟩ := hj
        simp [-List.map_map, cas, known_ok _ a.2 m r lk s hr]
      · obtain ⟨x, y, z, rfl⟩ := hj
        simp [-List.map_map, Body.has, h]
      · simp [-List.map_map, Body.has, h]
theorem up_dk (m : Tb) (n : Nat) : O.up n (.dct false (dk m)) = true := by
  show D.upTos n ((dk m).map (·.2)) = true
  unfold dk
  rw [List.map_map]
  induction m with
  | nil => rfl
  | cons a m ih => simpa [-List.map_map] using ih
def found (defs : List (Str × Body)) (m : Tb) : List Str := (defs.filter fun p => !(look m p.1).isSome && p.2.has m).map (·.1)
def lev (defs : List (Str × Body)) : Nat → Tb
  | 0 => []
  | L + 1 => lev defs L ++ (found defs (lev defs L)).map fun z => (z, (L : Int) + 1)
theorem look_app (a b : Tb) (z : Str) : look (a ++ b) z = match look a z with | some d => some d | none => look b z := by
  unfold look
  rw [List.find?_append]
  cases a.find? fun q => decide (q.1 = z) <;> rfl
theorem look_none {m : Tb} {z : Str} : look m z = none ↔ ∀ q ∈ m, q.1 ≠ z := by
  unfold look
  rw [Option.map_eq_none_iff, List.find?_eq_none]
  simp [-List.map_map]
theorem putD_dk (m : Tb) (z : Str) (v : Int) (h : look m z = none) : putD (dk m) (.inr z) (.int v) = dk (m ++ [(z, v)]) := by
  unfold putD
  have e : ((dk m).any fun p => decide (p.1 = Sum.inr z)) = false := by
    rw [List.any_eq_false]
    intro p hp
    obtain ⟨q, hq, rfl⟩ := List.mem_map.mp hp
    have := look_none.mp h q hq
    simpa [-List.map_map] using this
  rw [e, if_neg (by decide)]
  simp [-List.map_map, dk]
/-- depths[name] = level, for each name of a list -/
theorem put_loop (k : Nat) (r : Nat) (d0 : D) (L : Int) (e3 e5 : Option D) (P : Fl → Sto → Prop) (w : Option (Nat × List D)) : ∀ (zs : List Str) (m : Tb) (x : Option D) (s : Sto), s[r]? = some (.dct false (dk m)) → m.length + zs.length ≤ 10000 → zs.Nodup → (∀ z ∈ zs, look m z = none) →
    (∀ m', watch w (s.set r (.dct false (dk m'))) = true) →
    (∀ x, P (.nx [some d0, some (.ref r), some (.int L), e3, x, e5]) (s.set r (.dct false (dk (m ++ zs.map fun z => (z, L)))))) →
    Wp (forB (callF T k) [4] true l_least_depths_1 w (zs.map D.str) [some d0, some (.ref r), some (.int L), e3, x, e5] s) P := by
  intro zs
  induction zs with
  | nil =>
    intro m x s h1 h2 h3 h4 h6 h7
    have hs : s.set r (.dct false (dk m)) = s := by
      apply List.ext_getElem?
      intro i
      by_cases hi : r = i
      · subst hi
        rw [List.getElem?_set_self (List.getElem?_eq_some_iff.mp h1).1, h1]
      · rw [List.getElem?_set_ne hi]
    have a := h6 m
    have b := h7 x
    simp [-List.map_map] at b
    rw [hs] at a b
    simp [-List.map_map, forB_nil, a, b]
  | cons z zs ih =>
    intro m x s h1 h2 h3 h4 h6 h7
    have hs : s.set r (.dct false (dk m)) = s := by
      apply List.ext_getElem?
      intro i
      by_cases hi : r = i
      · subst hi
        rw [List.getElem?_set_self (List.getElem?_eq_some_iff.mp h1).1, h1]
      · rw [List.getElem?_set_ne hi]
    have a := h6 m
    rw [hs] at a
    have hl : (dk m).length < 16777216 := by simp [-List.map_map, dk]; simp [-List.map_map] at h2; omega
    have hr : r < s.length := (List.getElem?_eq_some_iff.mp h1).1
    simp [-List.map_map, forB_cons, a]
    rw [set_dct (k := .inr z) h1 rfl hl, putD_dk m z L (h4 z (List.mem_cons_self ..))]
    simp [-List.map_map]
    refine ih (m ++ [(z, L)]) _ (s.set r (.dct false (dk (m ++ [(z, L)])))) (by rw [List.getElem?_set_self hr]) (by simp [-List.map_map] at h2 ⊢; omega) (List.nodup_cons.mp h3).2 (fun y hy => ?_) (fun m' => by rw [List.set_set]; exact h6 m') fun x => ?_
    · rw [look_app, h4 y (List.mem_cons_of_mem _ hy)]
      have : z ≠ y := fun e => (List.nodup_cons.mp h3).1 (e ▸ hy)
      simp [-List.map_map, look, this]
    · rw [List.set_set]
      have := h7 x
      simpa [-List.map_map, List.append_assoc] using this
def rg (lo : Int) : Nat → List Int
  | 0 => []
  | n + 1 => lo :: rg (lo + 1) n
theorem rangeD_rg (n : Nat) : ∀ lo, rangeD lo n = (rg lo n).map D.int := by
  induction n with
  | zero => intro lo; rfl
  | succ n ih => intro lo; rw [rangeD, rg, List.map_cons, ih]
theorem lev_len (defs : List (Str × Body)) : ∀ L, (lev defs L).length ≤ L * defs.length
  | 0 => by simp [-List.map_map, lev]
  | L + 1 => by
    have h := lev_len defs L
    have h2 : (found defs (lev defs L)).length ≤ defs.length := by
      simp only [found, List.length_map]
      exact List.length_filter_le _ _
    have h3 : (L + 1) * defs.length = L * defs.length + defs.length := Nat.succ_mul _ _
    rw [lev, List.length_append, List.length_map, h3]
    omega
theorem found_nd {defs : List (Str × Body)} (h : (defs.map (·.1)).Nodup) (m : Tb) : (found defs m).Nodup := by
  unfold found
  exact h.sublist (List.Sublist.map _ List.filter_sublist)
theorem found_new {defs : List (Str × Body)} {m : Tb} {z : Str} (h : z ∈ found defs m) : look m z = none := by
  unfold found at h
  obtain ⟨p, hp, rfl⟩ := List.mem_map.mp h
  have := (List.mem_filter.mp hp).2
  simp [-List.map_map] at this
  exact this.1
theorem depths_ok (k : Nat) (c : Sch) (hf : c.Fit) (hn : c.ns.Nodup) (s : Sto) : callF T (k + 4) .f_least_depths [c.d] s = .ok (.ref s.length) (s ++ [.dct false (dk (lev c.defs c.defs.length))]) := by
  apply Wp.eq
  refine w_least_depths ?_
  have hlen := hf.len
  have hm : midI ((c.defs.length : Int) + 1) = true := by simp [-List.map_map, midI]; omega
  have hm1 : midI 1 = true := by decide
  have hc : (((c.defs.length : Int) + 1 - 1).toNat) = c.defs.length := by omega
  simp [-List.map_map, Sch.d, hm, hm1, hc, rangeD_rg]
  refine for_inv D.int (fun r env s' => ∃ L x2 x3 x4 x5, L ≤ c.defs.length ∧ r = rg ((L : Int) + 1) (c.defs.length - L) ∧ s'[s.length]? = some (.dct false (dk (lev c.defs L))) ∧ s'.take s.length = s ∧ env = [some c.d, some (.ref s.length), x2, x3, x4, x5])
    (fun a r env s' h => ?_) (fun env s' h => ?_) (rg 1 c.defs.length) _ _ ⟨0, none, none, none, none, Nat.zero_le _, by simp [-List.map_map], by simp [-List.map_map, lev, dk], by simp [-List.map_map], rfl⟩
  · obtain ⟨L, x2, x3, x4, x5, hL, e1, e2, e3, rfl⟩ := h
    obtain ⟨hL2, rfl, rfl⟩ : L < c.defs.length ∧ a = (L : Int) + 1 ∧ r = rg ((L : Int) + 1 + 1) (c.defs.length - (L + 1)) := by
      rcases Nat.lt_or_ge L c.defs.length with q | q
      · obtain ⟨j, hj⟩ : ∃ j, c.defs.length - L = j + 1 := ⟨c.defs.length - L - 1, by omega⟩
        rw [hj, rg] at e1
        exact ⟨q, (List.cons.inj e1).1, by rw [(List.cons.inj e1).2, show c.defs.length - (L + 1) = j from by omega]⟩
      · rw [show c.defs.length - L = 0 from by omega, rg] at e1
        cases e1
    refine ⟨rfl, _, bT1, ?_⟩
    have hr : s.length < s'.length := (List.getElem?_eq_some_iff.mp e2).1
    simp [-List.map_map, Sch.d]
    rw [lc_pure c.defs dfn (fun p => !(look (lev c.defs L) p.1).isSome && p.2.has (lev c.defs L)) (fun p => .str p.1) rfl (fun p hp => by
      refine ⟨_, by simp [-List.map_map, dfn]; rfl, ?_, fun _ => by simp [-List.map_map]⟩
      simp [-List.map_map, c_notin_d e2 (show keyOf (.str p.1) = some (.inr p.1) from rfl), valD_dk, has_ok _ p.2 _ _ _ _ e2]
      cases (look (lev c.defs L) p.1) <;> simp [-List.map_map])]
    have e4 : ((c.defs.filter fun p => !(look (lev c.defs L) p.1).isSome && p.2.has (lev c.defs L)).map fun p => D.str p.1) = (found c.defs (lev c.defs L)).map D.str := by simp [-List.map_map, found, List.map_map]
    rw [e4]
    have h5 : (found c.defs (lev c.defs L)).length ≤ c.defs.length := by
      simp only [found, List.length_map]
      exact List.length_filter_le _ _
    have h6 : (found c.defs (lev c.defs L)).length ≤ 16777216 := by omega
    have h7 := lev_len c.defs L
    have h8 : L * c.defs.length ≤ 60 * 60 := Nat.mul_le_mul (by omega) hlen
    simp [-List.map_map, h6, items_r]
    refine put_loop _ s.length c.d ((L : Int) + 1) (some (.ref s'.length)) x5 _ _ (found c.defs (lev c.defs L)) (lev c.defs L) x4 _ ?_ (by omega) (found_nd hn _) (fun z hz => found_new hz) (fun m' => ?_) fun x => ?_
    · rw [List.getElem?_append_left hr]; exact e2
    · refine watch_some ?_
      rw [List.getElem?_set_ne (by omega)]
      simp [-List.map_map]
    · simp only [sqR_nx, ss_nil, wp_ok, flP_nx]
      refine ⟨L + 1, _, _, _, _, hL2, by simp [-List.map_map], ?_, ?_, rfl⟩
      · rw [List.getElem?_set_self (by simp [-List.map_map]; omega)]
        simp [-List.map_map, lev]
      · exact take_upd (take_more e3 (by omega))
  · obtain ⟨L, x2, x3, x4, x5, hL, e1, e2, e3, rfl⟩ := h
    obtain rfl : L = c.defs.length := by
      rcases Nat.lt_or_ge L c.defs.length with q | q
      · obtain ⟨j, hj⟩ : ∃ j, c.defs.length - L = j + 1 := ⟨c.defs.length - L - 1, by omega⟩
        rw [hj, rg] at e1
        cases e1
      · omega
    refine ⟨rfl, ?_⟩
    simp [-List.map_map]
    rw [gc_new e2 e3 (Nat.le_refl _) (up_dk _ _)]
    simp [-List.map_map]
end
end SB.K61
end

section
set_option maxHeartbeats 1000000
namespace SB.K61
open PySem SB.Ev
/-! ### what the depths are -/
theorem look_mem {m : Tb} {z : Str} {d : Int} (h : look m z = some d) : (z, d) ∈ m := by
  unfold look at h
  obtain ⟨q, hq, rfl⟩ := Option.map_eq_some_iff.mp h
  have h1 := List.find?_some hq
  simp [-List.map_map] at h1
  subst h1
  exact List.mem_of_find?_eq_some hq
theorem look_tag {l : List Str} {z : Str} {v : Int} (h : z ∈ l) : look (l.map fun z => (z, v)) z = some v := by
  induction l with
  | nil => cases h
  | cons a l ih =>
    unfold look
    rw [List.map_cons, List.find?_cons]
    by_cases e : a = z
    · simp [-List.map_map, e]
    · simp only [e, decide_false]
      exact ih (by cases h with | head => exact absurd rfl e | tail _ h => exact h)
theorem lev_from (defs : List (Str × Body)) {z : Str} {d : Int} : ∀ L, look (lev defs L) z = some d → ∃ j, j < L ∧ d = (j : Int) + 1 ∧ z ∈ found defs (lev defs j)
  | 0, h => by simp [-List.map_map, lev, look] at h
  | L + 1, h => by
    rw [lev, look_app] at h
    cases e : look (lev defs L) z with
    | some d' =>
      rw [e] at h
      cases h
      obtain ⟨j, h1, h2, h3⟩ := lev_from defs L e
      exact ⟨j, by omega, h2, h3⟩
    | none =>
      rw [e] at h
      have hm := look_mem h
      obtain ⟨z', hz, e2⟩ := List.mem_map.mp hm
      cases e2
      exact ⟨L, by omega, rfl, hz⟩
theorem lev_to (defs : List (Str × Body)) {z : Str} {j : Nat} (h : z ∈ found defs (lev defs j)) : ∀ L, j < L → look (lev defs L) z = some ((j : Int) + 1)
  | 0, hl => by omega
  | L + 1, hl => by
    rw [lev, look_app]
    by_cases e : j = L
    · subst e
      rw [found_new h]
      exact look_tag h
    · rw [lev_to defs h L (by omega)]
theorem found_has {defs : List (Str × Body)} {m : Tb} {z : Str} (h : z ∈ found defs m) : ∃ b, (z, b) ∈ defs ∧ b.has m = true := by
  unfold found at h
  obtain ⟨p, hp, rfl⟩ := List.mem_map.mp h
  have := List.mem_filter.mp hp
  simp [-List.map_map] at this
  exact ⟨p.2, this.1, this.2.2⟩
theorem nd_same {defs : List (Str × Body)} (hn : (defs.map (·.1)).Nodup) {z : Str} {b b' : Body} (h : (z, b) ∈ defs) (h' : (z, b') ∈ defs) : b = b' := by
  induction defs with
  | nil => cases h
  | cons a l ih =>
    rw [List.map_cons, List.nodup_cons] at hn
    cases h with
    | head =>
      cases h' with
      | head => rfl
      | tail _ h' => exact absurd (List.mem_map.mpr ⟨_, h', rfl⟩) hn.1
    | tail _ h =>
      cases h' with
      | head => exact absurd (List.mem_map.mpr ⟨_, h, rfl⟩) hn.1
      | tail _ h' => exact ih hn.2 h h'
/-- a name's depth and what it rests on -/
theorem dep_has {defs : List (Str × Body)} (hn : (defs.map (·.1)).Nodup) {L : Nat} {z : Str} {b : Body} {d : Int} (hb : (z, b) ∈ defs) (h : look (lev defs L) z = some d) : ∃ j, j < L ∧ d = (j : Int) + 1 ∧ b.has (lev defs j) = true := by
  obtain ⟨j, h1, h2, h3⟩ := lev_from defs L h
  obtain ⟨b', h4, h5⟩ := found_has h3
  rw [nd_same hn hb h4]
  exact ⟨j, h1, h2, h5⟩
theorem known_dep {defs : List (Str × Body)} {j L : Nat} (hj : j ≤ L) {z : Str} (h : (look (lev defs j) z).isSome = true) : ∃ d, look (lev defs L) z = some d ∧ d ≤ (j : Int) := by
  obtain ⟨d, hd⟩ := Option.isSome_iff_exists.mp h
  obtain ⟨i, h1, h2, h3⟩ := lev_from defs j hd
  exact ⟨d, by rw [h2]; exact lev_to defs h3 L (by omega), by omega⟩
theorem nodup_len {α : Type} [DecidableEq α] : ∀ (l r : List α), l.Nodup → (∀ x ∈ l, x ∈ r) → l.length ≤ r.length
  | [], _, _, _ => Nat.zero_le _
  | a :: l, r, hn, h => by
    rw [List.nodup_cons] at hn
    have h1 := nodup_len l (r.erase a) hn.2 fun x hx => by
      refine (List.mem_erase_of_ne (fun e => hn.1 (by rw [← e]; exact hx))).mpr (h x (List.mem_cons_of_mem _ hx))
    have h2 : a ∈ r := h a (List.mem_cons_self ..)
    rw [List.length_erase_of_mem h2] at h1
    have h3 := List.length_pos_of_mem h2
    simp only [List.length_cons]
    omega
theorem lev_keys (defs : List (Str × Body)) (hn : (defs.map (·.1)).Nodup) : ∀ L, ((lev defs L).map (·.1)).Nodup ∧ ∀ z ∈ (lev defs L).map (·.1), z ∈ defs.map (·.1)
  | 0 => ⟨by simp [-List.map_map, lev], fun z h => by simp [-List.map_map, lev] at h⟩
  | L + 1 => by
    obtain ⟨h1, h2⟩ := lev_keys defs hn L
    have e : ((found defs (lev defs L)).map fun z => (z, (L : Int) + 1)).map (·.1) = found defs (lev defs L) := by
      rw [List.map_map]
      exact List.map_id _
    rw [lev, List.map_append, e]
    refine ⟨List.nodup_append.mpr ⟨h1, found_nd hn _, fun a ha b hb e => ?_⟩, fun z hz => ?_⟩
    · subst e
      obtain ⟨q, hq, rfl⟩ := List.mem_map.mp ha
      exact look_none.mp (found_new hb) q hq rfl
    · rcases List.mem_append.mp hz with hz | hz
      · exact h2 z hz
      · obtain ⟨b, hb, _⟩ := found_has hz
        exact List.mem_map.mpr ⟨_, hb, rfl⟩
theorem all_known {defs : List (Str × Body)} (hn : (defs.map (·.1)).Nodup) {L : Nat} (h : ¬ (lev defs L).length < defs.length) : ∀ p ∈ defs, ∃ d, look (lev defs L) p.1 = some d := by
  intro p hp
  cases e : look (lev defs L) p.1 with
  | some d => exact ⟨d, rfl⟩
  | none =>
    exfalso
    obtain ⟨h1, h2⟩ := lev_keys defs hn L
    have h3 := nodup_len ((lev defs L).map (·.1)) ((defs.map (·.1)).erase p.1) h1 fun z hz => by
      refine (List.mem_erase_of_ne fun q => ?_).mpr (h2 z hz)
      subst q
      obtain ⟨q, hq, e2⟩ := List.mem_map.mp hz
      exact look_none.mp e q hq e2
    have hm : p.1 ∈ defs.map (·.1) := List.mem_map.mpr ⟨p, hp, rfl⟩
    rw [List.length_erase_of_mem hm] at h3
    have := List.length_pos_of_mem hm
    simp only [List.length_map] at h3 this
    omega
/-! ### simple counts -/
def pcn (ct : Tb) : Part → Int
  | .nam z => (look ct z).getD 0
  | .lf _ => 1
def bstep (m : Tb) (b : Option (Int × Part)) (c : Int × Part) : Option (Int × Part) := if c.2.known m = true then (match b with
    | none => some c
    | some b => if pd m c.2 < pd m b.2 then some c else some b) else b
def best (m : Tb) (cs : List (Int × Part)) : Option (Int × Part) := cs.foldl (bstep m) none
def fcnt (ct : Tb) (t : Int) (f : Fld) : Int := match f.mode with
  | .opt => t
  | _ => t + pcn ct f.part
def Body.cnt (m ct : Tb) : Body → Int
  | .lst p lo _ => if lo = 0 then 1 else 1 + lo * pcn ct p
  | .recd fs _ => fs.foldl (fcnt ct) 1
  | .uni cs _ o => if o = true then 1 else 1 + (match best m cs with
    | some b => pcn ct b.2
    | none => 0)
def Body.cok (m ct : Tb) : Body → Prop
  | .lst p lo _ => lo ≠ 0 → p.known ct = true ∧ 0 ≤ lo ∧ lo ≤ 99
  | .recd fs _ => ∀ f ∈ fs, (match f.mode with | .opt => True | _ => f.part.known ct = true)
  | .uni cs _ o => o = false → ∃ b, best m cs = some b ∧ b.2.known ct = true
def bD' : Option (Int × Part) → D
  | none => .non
  | some c => cas c
def caseI (d0 : D) (r : Nat) (m : Tb) (cs : List (Int × Part)) (s : Sto) (l : List (Int × Part)) (env : Env) (s' : Sto) : Prop :=
  s' = s ∧ ∃ b x, env = [some d0, some (.ref r), some (bD' b), x] ∧ (∀ c, b = some c → c.2.known m = true) ∧ best m cs = l.foldl (bstep m) b
def cntI (d0 : D) (r r2 : Nat) (ct : Tb) (fs : List Fld) (s : Sto) (l : List Fld) (env : Env) (s' : Sto) : Prop :=
  s' = s ∧ ∃ t x y z, env = [some d0, some (.ref r), some (.ref r2), some (.int t), x, y, z] ∧ (∀ f ∈ l, f ∈ fs) ∧ fs.foldl (fcnt ct) 1 = l.foldl (fcnt ct) t
theorem case_ok (k : Nat) (cs : List (Int × Part)) (ret : List Int) (o : Bool) (m : Tb) (r : Nat) (lk : Bool) (s : Sto) (hr : s[r]? = some (.dct lk (dk m))) : callF T (k + 3) .f_simple_case [(Body.uni cs ret o).d, .ref r] s = .ok (bD' (best m cs)) s := by
  apply Wp.eq
  refine w_simple_case ?_
  simp [-List.map_map]
  refine for_inv cas (caseI (Body.uni cs ret o).d r m cs s) (fun a l env s' h => ?_) (fun env s' h => ?_) cs _ _ ⟨rfl, none, none, rfl, (fun _ h => by cases h), rfl⟩
  · obtain ⟨rfl, b, x, rfl, hb, he⟩ := h
    refine ⟨rfl, _, bT1, ?_⟩
    have ha := known_ok k a.2 m r lk s' hr
    have e1 : idxOp (cas a) (.int 1) s' = .ok a.2.d s' := by simp [-List.map_map, cas]
    simp [-List.map_map, e1, ha]
    by_cases h1 : a.2.known m = true
    · simp only [h1, if_true]
      cases b with
      | none =>
        simp [-List.map_map, bD']
        exact ⟨rfl, some a, _, rfl, fun c hc => by cases hc; exact h1, by rw [he, List.foldl_cons, bstep, if_pos h1]⟩
      | some b =>
        have hb' := hb b rfl
        have e2 : idxOp (cas b) (.int 1) s' = .ok b.2.d s' := by simp [-List.map_map, cas]
        have e3 : ¬ cas b = D.non := by simp [-List.map_map, cas]
        have e4 := pdep_ok k a.2 m h1 r lk s' hr
        have e5 := pdep_ok k b.2 m hb' r lk s' hr
        simp [-List.map_map, bD', e1, e2, e3, e4, e5]
        by_cases h2 : pd m a.2 < pd m b.2
        · simp [-List.map_map, h2]
          exact ⟨rfl, some a, _, rfl, fun c hc => by cases hc; exact h1, by rw [he, List.foldl_cons, bstep, if_pos h1, if_pos h2]⟩
        · simp [-List.map_map, h2]
          exact ⟨rfl, some b, _, rfl, fun c hc => by cases hc; exact hb', by rw [he, List.foldl_cons, bstep, if_pos h1, if_neg h2]⟩
    · simp [-List.map_map, h1]
      exact ⟨rfl, b, _, rfl, hb, by rw [he, List.foldl_cons]; unfold bstep; rw [if_neg h1]⟩
  · obtain ⟨rfl, b, x, rfl, hb, he⟩ := h
    refine ⟨rfl, ?_⟩
    simp [-List.map_map, he]
theorem count_ok (k : Nat) (b : Body) (m ct : Tb) (r r2 : Nat) (lk lk2 : Bool) (hc : b.cok m ct) (s : Sto) (hr : s[r]? = some (.dct lk (dk m))) (hr2 : s[r2]? = some (.dct lk2 (dk ct))) : callF T (k + 4) .f_simple_count [b.d, .ref r, .ref r2] s = .ok (.int (b.cnt m ct)) s := by
  have pc : ∀ p : Part, p.known ct = true → callF T (k + 3) .f_part_count [p.d, .ref r2] s = .ok (.int (pcn ct p)) s := fun p hp => by
    rw [pcnt_ok (k + 1) p ct hp r2 lk2 s hr2]
    cases p <;> rfl
  apply Wp.eq
  refine w_simple_count ?_
  cases b with
  | lst p lo hi =>
    simp [-List.map_map, Body.cnt]
    by_cases h : lo = 0
    · simp [-List.map_map, h]
    · obtain ⟨h1, h2, h3⟩ := hc h
      have sm : smallI lo = true := by simp [-List.map_map, smallI]; omega
      simp [-List.map_map, h, pc p h1, sm]
  | recd fs ret =>
    simp [-List.map_map, Body.cnt]
    refine for_inv Fld.d (cntI (Body.recd fs ret).d r r2 ct fs s) (fun a l env s' h => ?_) (fun env s' h => ?_) fs _ _ ⟨rfl, 1, none, none, none, rfl, fun _ h => h, rfl⟩
    · obtain ⟨rfl, t, x, y, z, rfl, hm, he⟩ := h
      have ha := hc a (hm a (List.mem_cons_self ..))
      refine ⟨rfl, _, by simp [-List.map_map, Fld.d]; rfl, ?_⟩
      obtain ⟨id, part, mode, dv⟩ := a
      cases mode with
      | opt =>
        simp [-List.map_map]
        exact ⟨rfl, t, _, _, _, rfl, fun f hf => hm f (List.mem_cons_of_mem _ hf), he⟩
      | req =>
        simp [-List.map_map, pc part ha]
        exact ⟨rfl, _, _, _, _, rfl, fun f hf => hm f (List.mem_cons_of_mem _ hf), he⟩
      | dfl =>
        simp [-List.map_map, pc part ha]
        exact ⟨rfl, _, _, _, _, rfl, fun f hf => hm f (List.mem_cons_of_mem _ hf), he⟩
    · obtain ⟨rfl, t, x, y, z, rfl, hm, he⟩ := h
      refine ⟨rfl, ?_⟩
      simp [-List.map_map, he]
  | uni cs ret o =>
    simp [-List.map_map, Body.cnt]
    cases o with
    | true => simp [-List.map_map]
    | false =>
      obtain ⟨b, hb, hk⟩ := hc rfl
      have e0 := case_ok k cs ret false m r lk s hr
      simp [-List.map_map, hb, bD'] at e0
      have e2 : idxOp (cas b) (.int 1) s = .ok b.2.d s := by simp [-List.map_map, cas]
      simp [-List.map_map, e0, e2, pc b.2 hk, hb]
end SB.K61
end

section
set_option maxHeartbeats 1000000
namespace SB.K61
open PySem SB.Ev
theorem best_from (m : Tb) : ∀ (l : List (Int × Part)) (b0 : Option (Int × Part)), (∀ b, b0 = some b → b.2.known m = true) →
    (∀ c ∈ l, c.2.known m = true → ∃ b, l.foldl (bstep m) b0 = some b ∧ b.2.known m = true ∧ pd m b.2 ≤ pd m c.2) ∧ (∀ b, b0 = some b → ∃ b', l.foldl (bstep m) b0 = some b' ∧ b'.2.known m = true ∧ pd m b'.2 ≤ pd m b.2)
  | [], b0, h => ⟨(fun c hc => nomatch hc), fun b hb => ⟨b, hb, h b hb, Int.le_refl _⟩⟩
  | a :: l, b0, h => by
    rw [List.foldl_cons]
    by_cases ha : a.2.known m = true
    · have e : ∃ b1, bstep m b0 a = some b1 ∧ b1.2.known m = true ∧ pd m b1.2 ≤ pd m a.2 ∧ ∀ b, b0 = some b → pd m b1.2 ≤ pd m b.2 := by
        unfold bstep
        rw [if_pos ha]
        cases b0 with
        | none => exact ⟨a, rfl, ha, Int.le_refl _, fun b hb => nomatch hb⟩
        | some b =>
          by_cases h2 : pd m a.2 < pd m b.2
          · exact ⟨a, by simp only; rw [if_pos h2], ha, Int.le_refl _, fun b' hb => by cases hb; omega⟩
          · exact ⟨b, by simp only; rw [if_neg h2], h b rfl, by omega, fun b' hb => by cases hb; exact Int.le_refl _⟩
      obtain ⟨b1, e1, k1, p1, q1⟩ := e
      rw [e1]
      obtain ⟨g1, g2⟩ := best_from m l (some b1) fun b hb => by cases hb; exact k1
      obtain ⟨b', f1, f2, f3⟩ := g2 b1 rfl
      refine ⟨fun c hc hk => ?_, fun b hb => ⟨b', f1, f2, by have := q1 b hb; omega⟩⟩
      cases hc with
      | head => exact ⟨b', f1, f2, by omega⟩
      | tail _ hc => exact g1 c hc hk
    · have e : bstep m b0 a = b0 := by unfold bstep; rw [if_neg ha]
      rw [e]
      obtain ⟨g1, g2⟩ := best_from m l b0 h
      refine ⟨fun c hc hk => ?_, g2⟩
      cases hc with
      | head => exact absurd hk ha
      | tail _ hc => exact g1 c hc hk
theorem best_spec {m : Tb} {cs : List (Int × Part)} {c : Int × Part} (hc : c ∈ cs) (hk : c.2.known m = true) : ∃ b, best m cs = some b ∧ b.2.known m = true ∧ pd m b.2 ≤ pd m c.2 :=
  (best_from m cs none fun b h => nomatch h).1 c hc hk
theorem part_ct {defs : List (Str × Body)} {j n : Nat} (hj : j ≤ n) {ct : Tb} (hct : ∀ z d, look (lev defs n) z = some d → d ≤ (j : Int) → (look ct z).isSome = true) {p : Part} (h : p.known (lev defs j) = true) : p.known ct = true ∧ p.known (lev defs n) = true ∧ pd (lev defs n) p ≤ j := by
  cases p with
  | lf l => exact ⟨rfl, rfl, by simp [-List.map_map, pd]⟩
  | nam z =>
    obtain ⟨d, h1, h2⟩ := known_dep hj h
    exact ⟨hct z d h1 h2, by show (look _ z).isSome = true; rw [h1]; rfl, by show (look _ z).getD 0 ≤ _; rw [h1]; exact h2⟩
theorem cok_of {defs : List (Str × Body)} {ns : List Str} {b : Body} (hb : b.ok ns = true) {j n : Nat} (hj : j ≤ n) (hh : b.has (lev defs j) = true) {ct : Tb} (hct : ∀ z d, look (lev defs n) z = some d → d ≤ (j : Int) → (look ct z).isSome = true) : b.cok (lev defs n) ct := by
  cases b with
  | lst p lo hi =>
    intro h0
    simp [-List.map_map, Body.ok] at hb
    simp [-List.map_map, Body.has, h0] at hh
    exact ⟨(part_ct hj hct hh).1, hb.2.1.1, by omega⟩
  | recd fs ret =>
    intro f hf
    simp [-List.map_map, Body.has] at hh
    have h1 := hh f hf
    simp [-List.map_map, Body.ok] at hb
    have h2 := hb.1 f hf
    obtain ⟨id, part, mode, dv⟩ := f
    cases mode with
    | opt => trivial
    | req => exact (part_ct hj hct h1).1
    | dfl =>
      cases part with
      | lf l => rfl
      | nam z => simp [-List.map_map, Fld.ok] at h2
  | uni cs ret o =>
    intro ho
    subst ho
    simp [-List.map_map, Body.has] at hh
    obtain ⟨i, p, hc, hk⟩ := hh
    obtain ⟨h1, h2, h3⟩ := part_ct hj hct hk
    obtain ⟨b, e1, e2, e3⟩ := best_spec hc h2
    refine ⟨b, e1, ?_⟩
    obtain ⟨bi, bp⟩ := b
    cases bp with
    | lf l => rfl
    | nam z =>
      have e2' : (look (lev defs n) z).isSome = true := e2
      obtain ⟨d, hd⟩ := Option.isSome_iff_exists.mp e2'
      have e4 : pd (lev defs n) (.nam z) = d := by show (look _ z).getD 0 = d; rw [hd]; rfl
      have e5 : pd (lev defs n) (.nam z) ≤ pd (lev defs n) p := e3
      exact hct z d hd (by omega)
/-! ### counts of all -/
def cstep (m : Tb) (L : Int) (ct : Tb) (p : Str × Body) : Tb := if look m p.1 = some L then ct ++ [(p.1, p.2.cnt m ct)] else ct
def clev (defs : List (Str × Body)) (m : Tb) : Nat → Tb
  | 0 => []
  | L + 1 => defs.foldl (cstep m ((L : Int) + 1)) (clev defs m L)
def ctI (m : Tb) (L : Nat) (pre : List Str) (ct : Tb) : Prop := ∀ z, (look ct z).isSome = true ↔ ∃ d, look m z = some d ∧ (d ≤ (L : Int) ∨ (d = (L : Int) + 1 ∧ z ∈ pre))
theorem ctI_step {m : Tb} {L : Nat} {pre : List Str} {ct : Tb} (h : ctI m L pre ct) (p : Str × Body) : ctI m L (pre ++ [p.1]) (cstep m ((L : Int) + 1) ct p) := by
  intro z
  unfold cstep
  by_cases hp : look m p.1 = some ((L : Int) + 1)
  · rw [if_pos hp, look_app]
    have hz := h z
    cases e : look ct z with
    | some d0 =>
      rw [e] at hz
      obtain ⟨d, h1, h2⟩ := hz.mp rfl
      refine ⟨fun _ => ⟨d, h1, h2.elim .inl fun q => .inr ⟨q.1, List.mem_append_left _ q.2⟩⟩, fun _ => rfl⟩
    | none =>
      rw [e] at hz
      by_cases ez : p.1 = z
      · subst ez
        refine ⟨fun _ => ⟨_, hp, .inr ⟨rfl, by simp [-List.map_map]⟩⟩, fun _ => by simp [-List.map_map, look]⟩
      · refine ⟨fun q => by simp [-List.map_map, look, ez] at q, fun q => ?_⟩
        obtain ⟨d, h1, h2⟩ := q
        refine absurd (hz.mpr ⟨d, h1, h2.elim .inl fun q => .inr ⟨q.1, ?_⟩⟩) (by simp [-List.map_map])
        rcases List.mem_append.mp q.2 with q | q
        · exact q
        · exact absurd (List.mem_singleton.mp q).symm ez
  · rw [if_neg hp]
    refine (h z).trans ⟨fun ⟨d, h1, h2⟩ => ⟨d, h1, h2.elim .inl fun q => .inr ⟨q.1, List.mem_append_left _ q.2⟩⟩, fun ⟨d, h1, h2⟩ => ⟨d, h1, h2.elim .inl fun q => ?_⟩⟩
    rcases List.mem_append.mp q.2 with q2 | q2
    · exact .inr ⟨q.1, q2⟩
    · exact absurd (by rw [← List.mem_singleton.mp q2, ← q.1]; exact h1) hp
theorem ctI_fold {m : Tb} {L : Nat} : ∀ (l : List (Str × Body)) {pre : List Str} {ct : Tb}, ctI m L pre ct → ctI m L (pre ++ l.map (·.1)) (l.foldl (cstep m ((L : Int) + 1)) ct)
  | [], pre, ct, h => by simpa [-List.map_map] using h
  | p :: l, pre, ct, h => by
    have := ctI_fold l (ctI_step h p)
    simpa [-List.map_map, List.append_assoc] using this
theorem ctI_lev {defs : List (Str × Body)} (hn : (defs.map (·.1)).Nodup) (n : Nat) : ∀ L, ctI (lev defs n) L [] (clev defs (lev defs n) L)
  | 0 => by
    intro z
    refine ⟨fun h => by simp [-List.map_map, clev, look] at h, fun ⟨d, h1, h2⟩ => ?_⟩
    obtain ⟨j, h3, h4, _⟩ := lev_from defs n h1
    rcases h2 with h2 | ⟨_, h2⟩
    · exfalso
      simp [-List.map_map] at h2
      omega
    · cases h2
  | L + 1 => by
    have h := ctI_fold defs (ctI_lev hn n L)
    intro z
    rw [clev]
    refine (h z).trans ⟨fun ⟨d, h1, h2⟩ => ⟨d, h1, .inl ?_⟩, fun ⟨d, h1, h2⟩ => ⟨d, h1, ?_⟩⟩
    · rcases h2 with h2 | ⟨h2, _⟩
      · simp [-List.map_map]; omega
      · rw [h2]; simp [-List.map_map]
    · rcases h2 with h2 | ⟨_, h2⟩
      · by_cases e : d ≤ (L : Int)
        · exact .inl e
        · refine .inr ⟨by simp [-List.map_map] at h2; omega, ?_⟩
          rw [List.nil_append]
          exact (lev_keys defs hn n).2 z (List.mem_map.mpr ⟨_, look_mem h1, rfl⟩)
      · cases h2
theorem fold_len (m : Tb) (L : Int) : ∀ (l : List (Str × Body)) (ct : Tb), (l.foldl (cstep m L) ct).length ≤ ct.length + l.length
  | [], ct => by simp [-List.map_map]
  | p :: l, ct => by
    have h := fold_len m L l (cstep m L ct p)
    have h2 : (cstep m L ct p).length ≤ ct.length + 1 := by
      unfold cstep
      split <;> simp [-List.map_map]
    simp only [List.foldl_cons, List.length_cons]
    omega
theorem clev_len (defs : List (Str × Body)) (m : Tb) : ∀ L, (clev defs m L).length ≤ L * defs.length
  | 0 => by simp [-List.map_map, clev]
  | L + 1 => by
    have h := clev_len defs m L
    have h2 := fold_len m ((L : Int) + 1) defs (clev defs m L)
    have h3 : (L + 1) * defs.length = L * defs.length + defs.length := Nat.succ_mul _ _
    rw [clev, h3]
    omega
def inI (d0 : D) (r : Nat) (defs : List (Str × Body)) (m : Tb) (L : Nat) (s : Sto) (l : List (Str × Body)) (env : Env) (s' : Sto) : Prop :=
  ∃ pre ct x y, defs = pre ++ l ∧ s' = s ++ [.dct false (dk ct)] ∧ ct = pre.foldl (cstep m ((L : Int) + 1)) (clev defs m L) ∧ ctI m L (pre.map (·.1)) ct ∧ env = [some d0, some (.ref r), some (.ref s.length), some (.int ((L : Int) + 1)), x, y]
def outI (d0 : D) (r : Nat) (defs : List (Str × Body)) (m : Tb) (s : Sto) (l : List Int) (env : Env) (s' : Sto) : Prop :=
  ∃ L x y z, L ≤ defs.length ∧ l = rg ((L : Int) + 1) (defs.length - L) ∧ s' = s ++ [.dct false (dk (clev defs m L))] ∧ env = [some d0, some (.ref r), some (.ref s.length), x, y, z]
@[simp] theorem set_last {s : Sto} {a b : O} : (s ++ [a]).set s.length b = s ++ [b] := by
  have h : ∀ (l : List O), (l ++ [a]).set l.length b = l ++ [b] := fun l => by
    induction l with
    | nil => rfl
    | cons x l ih => simp [-List.map_map, ih]
  exact h s
theorem counts_ok (k : Nat) (c : Sch) (hf : c.Fit) (hn : c.ns.Nodup) (ns : List Str) (hb : ∀ p ∈ c.defs, p.2.ok ns = true) (hk : ∀ p ∈ c.defs, ∃ d, look (lev c.defs c.defs.length) p.1 = some d) (r : Nat) (lk : Bool) (s : Sto)
    (hr : s[r]? = some (.dct lk (dk (lev c.defs c.defs.length)))) : callF T (k + 5) .f_simple_counts [c.d, .ref r] s = .ok (.ref s.length) (s ++ [.dct false (dk (clev c.defs (lev c.defs c.defs.length) c.defs.length))]) := by
  apply Wp.eq
  refine w_simple_counts ?_
  have hlen := hf.len
  have hm : midI ((c.defs.length : Int) + 1) = true := by simp [-List.map_map, midI]; omega
  have hm1 : midI 1 = true := by decide
  have hc : (((c.defs.length : Int) + 1 - 1).toNat) = c.defs.length := by omega
  have hrl : r < s.length := (List.getElem?_eq_some_iff.mp hr).1
  simp [-List.map_map, Sch.d, hm, hm1, hc, rangeD_rg]
  refine for_inv D.int (outI c.d r c.defs (lev c.defs c.defs.length) s) (fun a l env s' h => ?_) (fun env s' h => ?_) (rg 1 c.defs.length) _ _ ⟨0, none, none, none, Nat.zero_le _, by simp [-List.map_map], by simp [-List.map_map, clev, dk], rfl⟩
  · obtain ⟨L, x, y, z, hL, e1, rfl, rfl⟩ := h
    obtain ⟨hL2, rfl, rfl⟩ : L < c.defs.length ∧ a = (L : Int) + 1 ∧ l = rg ((L : Int) + 1 + 1) (c.defs.length - (L + 1)) := by
      rcases Nat.lt_or_ge L c.defs.length with q | q
      · obtain ⟨j, hj⟩ : ∃ j, c.defs.length - L = j + 1 := ⟨c.defs.length - L - 1, by omega⟩
        rw [hj, rg] at e1
        exact ⟨q, (List.cons.inj e1).1, by rw [(List.cons.inj e1).2, show c.defs.length - (L + 1) = j from by omega]⟩
      · rw [show c.defs.length - L = 0 from by omega, rg] at e1
        cases e1
    refine ⟨rfl, _, bT1, ?_⟩
    simp [-List.map_map, Sch.d]
    refine for_inv dfn (inI c.d r c.defs (lev c.defs c.defs.length) L s) (fun p l env s' h => ?_) (fun env s' h => ?_) c.defs _ _ ⟨[], _, y, z, rfl, rfl, rfl, ctI_lev hn _ L, rfl⟩
    · obtain ⟨pre, ct, x, y, e2, rfl, e3, hI, rfl⟩ := h
      refine ⟨rfl, _, by simp [-List.map_map, dfn]; rfl, ?_⟩
      have hp : p ∈ c.defs := by rw [e2]; simp [-List.map_map]
      obtain ⟨d, hd⟩ := hk p hp
      have hr1 : (s ++ [O.dct false (dk ct)])[r]? = some (.dct lk (dk (lev c.defs c.defs.length))) := by rw [List.getElem?_append_left hrl]; exact hr
      have hr2 : (s ++ [O.dct false (dk ct)])[s.length]? = some (.dct false (dk ct)) := by simp [-List.map_map]
      have ed : idxOp (.ref r) (.str p.1) (s ++ [O.dct false (dk ct)]) = .ok (.int d) (s ++ [O.dct false (dk ct)]) := by
        rw [SB.Ev.ix_dct hr1 (show keyOf (.str p.1) = some (.inr p.1) from rfl), valD_dk, hd]
        rfl
      have nx : inI c.d r c.defs (lev c.defs c.defs.length) L s l [some c.d, some (.ref r), some (.ref s.length), some (.int ((L : Int) + 1)), some (.str p.1), some p.2.d] (s ++ [O.dct false (dk (cstep (lev c.defs c.defs.length) ((L : Int) + 1) ct p))]) :=
        ⟨pre ++ [p], _, _, _, by rw [e2]; simp [-List.map_map], rfl, by rw [List.foldl_append, ← e3]; rfl, by have := ctI_step hI p; simpa [-List.map_map] using this, rfl⟩
      simp [-List.map_map, ed]
      by_cases hdl : d = (L : Int) + 1
      · have hj := dep_has hn (b := p.2) hp hd
        obtain ⟨j, j1, j2, j3⟩ := hj
        obtain rfl : j = L := by omega
        have cok := cok_of (hb p hp) (ct := ct) (show j ≤ c.defs.length by omega) j3 (fun z d' h1 h2 => (hI z).mpr ⟨d', h1, .inl h2⟩)
        have cnt := count_ok k p.2 _ ct r s.length lk false cok _ hr1 hr2
        have hnone : look ct p.1 = none := by
          cases e : look ct p.1 with
          | none => rfl
          | some v =>
            obtain ⟨d', h1, h2⟩ := (hI p.1).mp (by rw [e]; rfl)
            rw [hd] at h1
            cases h1
            exfalso
            rcases h2 with h2 | ⟨_, h2⟩
            · omega
            · have : c.ns.Nodup := hn
              unfold Sch.ns at this
              rw [e2, List.map_append, List.map_cons] at this
              exact (List.nodup_append.mp this).2.2 p.1 h2 p.1 (List.mem_cons_self ..) rfl
        have hlen2 : (dk ct).length < 16777216 := by
          have h1 := fold_len (lev c.defs c.defs.length) ((j : Int) + 1) pre (clev c.defs (lev c.defs c.defs.length) j)
          have h2 := clev_len c.defs (lev c.defs c.defs.length) j
          have h3 : j * c.defs.length ≤ 60 * 60 := Nat.mul_le_mul (by omega) hlen
          have h4 : pre.length ≤ c.defs.length := by rw [e2]; simp [-List.map_map]
          rw [← e3] at h1
          simp [-List.map_map, dk]
          omega
        simp [-List.map_map, hdl, cnt]
        rw [set_dct (k := .inr p.1) hr2 rfl hlen2, putD_dk ct p.1 _ hnone]
        simp [-List.map_map]
        have ee : cstep (lev c.defs c.defs.length) ((j : Int) + 1) ct p = ct ++ [(p.1, p.2.cnt (lev c.defs c.defs.length) ct)] := by unfold cstep; rw [if_pos (by rw [hd, hdl])]
        rw [ee] at nx
        exact nx
      · have hne : ¬ look (lev c.defs c.defs.length) p.1 = some ((L : Int) + 1) := by rw [hd]; intro q; exact hdl (Option.some.inj q)
        have ee : cstep (lev c.defs c.defs.length) ((L : Int) + 1) ct p = ct := by unfold cstep; rw [if_neg hne]
        rw [ee] at nx
        simp [-List.map_map, hdl]
        exact nx
    · obtain ⟨pre, ct, x, y, e2, rfl, e3, hI, rfl⟩ := h
      refine ⟨rfl, ?_⟩
      rw [List.append_nil] at e2
      subst e2
      simp only [sqR_nx, ss_nil, wp_ok, flP_nx]
      exact ⟨L + 1, _, _, _, hL2, by simp [-List.map_map], by rw [e3]; rfl, rfl⟩
  · obtain ⟨L, x, y, z, hL, e1, rfl, rfl⟩ := h
    obtain rfl : L = c.defs.length := by
      rcases Nat.lt_or_ge L c.defs.length with q | q
      · obtain ⟨j, hj⟩ : ∃ j, c.defs.length - L = j + 1 := ⟨c.defs.length - L - 1, by omega⟩
        rw [hj, rg] at e1
        cases e1
      · omega
    refine ⟨rfl, ?_⟩
    simp [-List.map_map]
end SB.K61
end

section
set_option maxHeartbeats 1000000
namespace SB.K61
open PySem SB.Ev
def Sch.cts (c : Sch) : Tb := clev c.defs (lev c.defs c.defs.length) c.defs.length
def Sch.bnd (c : Sch) : Bool := !decide ((lev c.defs c.defs.length).length < c.defs.length) && c.cts.all fun q => decide ((look c.cts q.1).getD 0 ≤ 100)
def Sch.valid (c : Sch) : Bool := c.desc && c.bnd
theorem desc_nd {c : Sch} (h : c.desc = true) : c.ns.Nodup := by
  simp [-List.map_map, Sch.desc] at h
  exact sorted_nd h.2.1
theorem desc_body {c : Sch} (h : c.desc = true) : ∀ p ∈ c.defs, p.2.ok c.ns = true := by
  intro p hp
  simp [-List.map_map, Sch.desc] at h
  exact (h.2.2.2 p.1 p.2 hp).2
theorem look_in {m : Tb} {q : Str × Int} (h : q ∈ m) : ∃ v, look m q.1 = some v := by
  cases e : look m q.1 with
  | some v => exact ⟨v, rfl⟩
  | none => exact absurd rfl (look_none.mp e q h)
theorem bounded_ok (k : Nat) (c : Sch) (hf : c.Fit) (hd : c.desc = true) (s : Sto) : callF T (k + 6) .f_are_bounded [c.d] s = .ok (.bl c.bnd) s := by
  apply Wp.eq
  refine w_are_bounded ?_
  have hn := desc_nd hd
  have e1 := depths_ok (k + 1) c hf hn s
  have l1 : (s ++ [O.dct false (dk (lev c.defs c.defs.length))])[s.length]? = some (.dct false (dk (lev c.defs c.defs.length))) := by simp [-List.map_map]
  have e2 := len_dct l1
  have ei : ∀ s' : Sto, idxOp c.d (.int 1) s' = .ok (.tup (c.defs.map dfn)) s' := fun s' => by simp [-List.map_map, Sch.d]
  simp [-List.map_map, e1, e2, ei]
  have el : (dk (lev c.defs c.defs.length)).length = (lev c.defs c.defs.length).length := by simp [-List.map_map, dk]
  rw [el]
  by_cases h1 : (lev c.defs c.defs.length).length < c.defs.length
  · have h1' : ((lev c.defs c.defs.length).length : Int) < (c.defs.length : Int) := by omega
    simp [-List.map_map, h1', Sch.bnd, h1]
  · have h1' : ¬ ((lev c.defs c.defs.length).length : Int) < (c.defs.length : Int) := by omega
    have e3 := counts_ok k c hf hn c.ns (desc_body hd) (all_known hn h1) s.length false _ l1
    simp [-List.map_map, h1', e3]
    rw [if_neg h1]
    have ex : ∃ S2 : Sto, S2 = s ++ [O.dct false (dk (lev c.defs c.defs.length)), O.dct true (dk (clev c.defs (lev c.defs c.defs.length) c.defs.length))] := ⟨_, rfl⟩
    obtain ⟨S2, hS⟩ := ex
    rw [← hS]
    have l4 : S2[s.length + 1]? = some (.dct true (dk c.cts)) := by rw [hS]; simp [-List.map_map, Sch.cts]
    have l3 : S2.take s.length = s := by rw [hS]; simp [-List.map_map]
    have l5 : (S2.set (s.length + 1) (.dct false (dk c.cts))).take s.length = s := by
      rw [List.take_set_of_le (by omega), l3]
    show Wp (unlock (s.length + 1) (dk c.cts) (forB (callF T (k + 5)) [3] true l_are_bounded_1 none ((dk c.cts).map fun q => keyD q.1) _ S2)) _
    refine wp_unlock ?_
    have ek : ((dk c.cts).map fun q => keyD q.1) = c.cts.map fun q => D.str q.1 := by
      unfold dk
      rw [List.map_map]
      rfl
    rw [ek]
    refine allE (f := fun q : Str × Int => D.str q.1) (fun q => decide ((look c.cts q.1).getD 0 ≤ 100)) (fun env => ∃ x, env = [some c.d, some (.ref s.length), some (.ref (s.length + 1)), x]) c.cts ?_ watch_none (fun a env ha hj => ?_) (fun env hj h => ?_) fun h => ?_
    · exact ⟨none, rfl⟩
    · obtain ⟨x, rfl⟩ := hj
      obtain ⟨v, hv⟩ := look_in ha
      simp [-List.map_map]
      rw [SB.Ev.ix_dct l4 (show keyOf (.str a.1) = some (.inr a.1) from rfl), valD_dk, hv]
      simp [-List.map_map]
    · obtain ⟨x, rfl⟩ := hj
      refine ⟨l4, ?_⟩
      simp [-List.map_map, l5, Sch.bnd, h1, h]
    · refine ⟨l4, ?_⟩
      simp [-List.map_map, l5, Sch.bnd, h1, h]
theorem valid_ok (k : Nat) (c : Sch) (hf : c.Fit) (s : Sto) : callF T (k + 8) .f_is_valid [c.d] s = .ok (.bl c.valid) s := by
  apply Wp.eq
  refine w_is_valid ?_
  simp [-List.map_map, desc_ok _ c hf, Sch.valid]
  cases h : c.desc with
  | false => simp [-List.map_map]
  | true => simp [-List.map_map, bounded_ok _ c hf h]
end SB.K61
end

section
set_option maxHeartbeats 1000000
namespace SB.K61
open PySem SB.Ev
/-! ### the data are pure -/
mutual
theorem pure_up (n : Nat) : ∀ d : D, d.pure = true → d.upTo n = true
  | .non, _ => rfl
  | .bl _, _ => rfl
  | .int _, _ => rfl
  | .str _, _ => rfl
  | .tup l, h => pures_up n l h
  | .ref _, h => by cases h
  | .fn _, h => by cases h
  | .lis _, h => by cases h
theorem pures_up (n : Nat) : ∀ l : List D, D.pures l = true → D.upTos n l = true
  | [], _ => rfl
  | a :: l, h => by
    have h' : (D.pure a && D.pures l) = true := h
    rw [Bool.and_eq_true] at h'
    show (D.upTo n a && D.upTos n l) = true
    rw [pure_up n a h'.1, pures_up n l h'.2]
    rfl
end
theorem pures_map {α : Type} {f : α → D} (h : ∀ a, (f a).pure = true) (l : List α) : D.pures (l.map f) = true := by
  induction l with
  | nil => rfl
  | cons a l ih => simp [-List.map_map, h, ih]
theorem Leaf.pu (l : Leaf) : l.d.pure = true := by cases l <;> simp [-List.map_map]
theorem Part.pu (p : Part) : p.d.pure = true := by cases p <;> simp [-List.map_map, Leaf.pu]
theorem Dv.pu (v : Dv) : v.d.pure = true := by cases v <;> simp [-List.map_map]
theorem Fld.pu (f : Fld) : f.d.pure = true := by simp [-List.map_map, Fld.d, Part.pu, Dv.pu]
theorem cas_pu (c : Int × Part) : (cas c).pure = true := by simp [-List.map_map, cas, Part.pu]
theorem Body.pu (b : Body) : b.d.pure = true := by cases b <;> simp [-List.map_map, Part.pu, pures_map Fld.pu, pures_map cas_pu]
theorem dfn_pu (p : Str × Body) : (dfn p).pure = true := by simp [-List.map_map, dfn, Body.pu]
theorem Sch.pu (c : Sch) : c.d.pure = true := by simp [-List.map_map, Sch.d, pures_map dfn_pu]
theorem deeps_map {α : Type} {f : α → D} {n : Nat} (h : ∀ a, (f a).deep ≤ n) (l : List α) : D.deeps (l.map f) ≤ n := by
  induction l with
  | nil => exact Nat.zero_le _
  | cons a l ih =>
    rw [List.map_cons, D_deeps_cons]
    exact Nat.max_le.mpr ⟨h a, ih⟩
theorem Leaf.de (l : Leaf) : l.d.deep ≤ 2 := by cases l <;> simp [-List.map_map]
theorem Part.de (p : Part) : p.d.deep ≤ 2 := by cases p <;> simp [-List.map_map, Leaf.de]
theorem Dv.de (v : Dv) : v.d.deep = 0 := by cases v <;> simp [-List.map_map]
theorem Fld.de (f : Fld) : f.d.deep ≤ 3 := by have := f.part.de; simp [-List.map_map, Fld.d, Dv.de]; omega
theorem cas_de (c : Int × Part) : (cas c).deep ≤ 3 := by have := c.2.de; simp [-List.map_map, cas]; omega
theorem Body.de (b : Body) : b.d.deep ≤ 5 := by
  cases b with
  | lst p lo hi => have := p.de; simp [-List.map_map]; omega
  | recd fs ret => have := deeps_map Fld.de fs; simp [-List.map_map]; omega
  | uni cs ret o => have := deeps_map cas_de cs; simp [-List.map_map]; omega
theorem dfn_de (p : Str × Body) : (dfn p).deep ≤ 6 := by have := p.2.de; simp [-List.map_map, dfn]; omega
theorem Sch.de (c : Sch) : c.d.deep ≤ 8 := by have := deeps_map dfn_de c.defs; simp [-List.map_map, Sch.d]; omega
/-! ### a body put in -/
def Sch.put (c : Sch) (z : Str) (b : Body) : Sch := ⟨c.root, c.defs.map fun p => if p.1 = z then (p.1, b) else p⟩
def putI (d0 d1 d2 : D) (c : Sch) (g : Str × Body → Str × Body) (s : Sto) (mk : Option D → Option D → Env) (l : List (Str × Body)) (env : Env) (s' : Sto) : Prop :=
  ∃ pre x y, c.defs = pre ++ l ∧ s' = s ++ [.lst ((pre.map g).map dfn)] ∧ env = mk x y
theorem with_ok (k : Nat) (c : Sch) (hf : c.Fit) (z : Str) (b : Body) (s : Sto) : callF T (k + 1) .f_with_body [c.d, .str z, b.d] s = .ok (c.put z b).d s := by
  apply Wp.eq
  refine w_with_body ?_
  have ei : ∀ s' : Sto, idxOp c.d (.int 1) s' = .ok (.tup (c.defs.map dfn)) s' := fun s' => by simp [-List.map_map, Sch.d]
  have ei0 : ∀ s' : Sto, idxOp c.d (.int 0) s' = .ok (.str c.root) s' := fun s' => by simp [-List.map_map, Sch.d]
  have hlen := hf.len
  simp [-List.map_map, ei]
  refine for_inv dfn (putI c.d (.str z) b.d c (fun p => if p.1 = z then (p.1, b) else p) s fun x y => [some c.d, some (.str z), some b.d, some (.ref s.length), x, y]) (fun p l env s' h => ?_) (fun env s' h => ?_) c.defs _ _ ⟨[], none, none, rfl, rfl, rfl⟩
  · obtain ⟨pre, x, y, e, rfl, rfl⟩ := h
    refine ⟨rfl, _, by simp [-List.map_map, dfn]; rfl, ?_⟩
    have l0 : (s ++ [O.lst ((pre.map fun p => if p.1 = z then (p.1, b) else p).map dfn)])[s.length]? = some (.lst ((pre.map fun p => if p.1 = z then (p.1, b) else p).map dfn)) := by simp [-List.map_map]
    have hpre : pre.length < 16777216 := by
      have : pre.length ≤ c.defs.length := by rw [e]; simp [-List.map_map]
      omega
    have nx : putI c.d (.str z) b.d c (fun p => if p.1 = z then (p.1, b) else p) s (fun x y => [some c.d, some (.str z), some b.d, some (.ref s.length), x, y]) l [some c.d, some (.str z), some b.d, some (.ref s.length), some (.str p.1), some p.2.d] (s ++ [.lst ((pre.map fun p => if p.1 = z then (p.1, b) else p).map dfn ++ [dfn (if p.1 = z then (p.1, b) else p)])]) :=
      ⟨pre ++ [p], _, _, by rw [e]; simp [-List.map_map], by simp [-List.map_map], rfl⟩
    by_cases h : p.1 = z
    · simp [-List.map_map, h, recv_app l0, app_r l0, hpre]
      simpa [-List.map_map, h, dfn] using nx
    · simp [-List.map_map, h, recv_app l0, app_r l0, hpre]
      simpa [-List.map_map, h, dfn] using nx
  · obtain ⟨pre, x, y, e, rfl, rfl⟩ := h
    rw [List.append_nil] at e
    subst e
    refine ⟨rfl, ?_⟩
    have hp := pure_up s.length _ (c.put z b).pu
    simp [-List.map_map, ei0, Sch.put, Sch.d] at hp ⊢
    exact hp
theorem lwith_ok (k : Nat) (c : Sch) (hf : c.Fit) (z : Str) (b : Body) (s : Sto) : callF T (k + 1) .f_law_with_body [c.d, .str z, b.d] s = .ok (c.put z b).d s := by
  apply Wp.eq
  refine w_law_with_body ?_
  have ei : ∀ s' : Sto, idxOp c.d (.int 1) s' = .ok (.tup (c.defs.map dfn)) s' := fun s' => by simp [-List.map_map, Sch.d]
  have ei0 : ∀ s' : Sto, idxOp c.d (.int 0) s' = .ok (.str c.root) s' := fun s' => by simp [-List.map_map, Sch.d]
  have hlen := hf.len
  simp [-List.map_map, ei]
  refine for_inv dfn (putI c.d (.str z) b.d c (fun p => if p.1 = z then (p.1, b) else p) s fun x y => [some c.d, some (.str z), some b.d, some (.ref s.length), x]) (fun p l env s' h => ?_) (fun env s' h => ?_) c.defs _ _ ⟨[], none, none, rfl, rfl, rfl⟩
  · obtain ⟨pre, x, y, e, rfl, rfl⟩ := h
    refine ⟨rfl, _, bT1, ?_⟩
    have l0 : (s ++ [O.lst ((pre.map fun p => if p.1 = z then (p.1, b) else p).map dfn)])[s.length]? = some (.lst ((pre.map fun p => if p.1 = z then (p.1, b) else p).map dfn)) := by simp [-List.map_map]
    have hpre : pre.length < 16777216 := by
      have : pre.length ≤ c.defs.length := by rw [e]; simp [-List.map_map]
      omega
    have nx : putI c.d (.str z) b.d c (fun p => if p.1 = z then (p.1, b) else p) s (fun x y => [some c.d, some (.str z), some b.d, some (.ref s.length), x]) l [some c.d, some (.str z), some b.d, some (.ref s.length), some (dfn p)] (s ++ [.lst ((pre.map fun p => if p.1 = z then (p.1, b) else p).map dfn ++ [dfn (if p.1 = z then (p.1, b) else p)])]) :=
      ⟨pre ++ [p], _, none, by rw [e]; simp [-List.map_map], by simp [-List.map_map], rfl⟩
    have ep : ∀ s' : Sto, idxOp (dfn p) (.int 0) s' = .ok (.str p.1) s' := fun s' => by simp [-List.map_map, dfn]
    by_cases h : p.1 = z
    · simp [-List.map_map, ep, h, recv_app l0, app_r l0, hpre]
      rw [if_pos h] at nx
      rw [show dfn (p.1, b) = D.tup [.str z, b.d] by simp [-List.map_map, dfn, h]] at nx
      exact nx
    · simp [-List.map_map, ep, h, recv_app l0, app_r l0, hpre]
      rw [if_neg h] at nx
      exact nx
  · obtain ⟨pre, x, y, e, rfl, rfl⟩ := h
    rw [List.append_nil] at e
    subst e
    refine ⟨rfl, ?_⟩
    have hp := pure_up s.length _ (c.put z b).pu
    simp [-List.map_map, ei0, Sch.put, Sch.d] at hp ⊢
    exact hp
def bodyAt (z : Str) : List (Str × Body) → D
  | [] => .non
  | p :: l => if p.1 = z then p.2.d else bodyAt z l
theorem body_of_loop (C : F → List D → Sto → R D) (z : Str) (d0 : D) (s : Sto) (P : Fl → Sto → Prop) (l0 : List (Str × Body)) : ∀ (l : List (Str × Body)) (x y : Option D), bodyAt z l = bodyAt z l0 → (∀ env, bodyAt z l0 = .non → P (.nx env) s) → (∀ b : Body, bodyAt z l0 = b.d → P (.ret b.d) s) →
    Wp (forB C [2, 3] false l_body_of_1 none (l.map dfn) [some d0, some (.str z), x, y] s) P := by
  intro l
  induction l with
  | nil => intro x y e h1 h2; simp [-List.map_map, forB_nil]; exact h1 _ e.symm
  | cons p l ih =>
    intro x y e h1 h2
    simp [-List.map_map, forB_cons, dfn]
    by_cases h : p.1 = z
    · simp [-List.map_map, h]
      exact h2 p.2 (by rw [← e, bodyAt, if_pos h])
    · simp [-List.map_map, h]
      exact ih _ _ (by rw [← e, bodyAt, if_neg h]) h1 h2
theorem bodyof_ok (k : Nat) (c : Sch) (z : Str) (s : Sto) : callF T (k + 1) .f_body_of [c.d, .str z] s = .ok (bodyAt z c.defs) s := by
  apply Wp.eq
  refine w_body_of ?_
  have ei : ∀ s' : Sto, idxOp c.d (.int 1) s' = .ok (.tup (c.defs.map dfn)) s' := fun s' => by simp [-List.map_map, Sch.d]
  simp [-List.map_map, ei]
  refine body_of_loop _ z c.d s _ c.defs c.defs none none rfl (fun env h => ?_) fun b h => ?_
  · simp [-List.map_map, h]
  · simp [-List.map_map, h]
theorem bodyAt_in {z : Str} {b : Body} {l : List (Str × Body)} (hn : (l.map (·.1)).Nodup) (h : (z, b) ∈ l) : bodyAt z l = b.d := by
  induction l with
  | nil => cases h
  | cons a l ih =>
    rw [List.map_cons, List.nodup_cons] at hn
    cases h with
    | head => simp [-List.map_map, bodyAt]
    | tail _ h =>
      have : ¬ a.1 = z := fun e => hn.1 (List.mem_map.mpr ⟨_, h, e.symm⟩)
      rw [bodyAt, if_neg this]
      exact ih hn.2 h
/-! ### the law's own comparison -/
theorem same_loop (n k : Nat) (l : List D) (hl : D.pures l = true) (hd : D.deeps l ≤ n) (s : Sto) (P : Fl → Sto → Prop) (ih : ∀ x ∈ l, x.pure = true → x.deep ≤ n → callF T (k + n + 1) .f_law_same [x, x] s = .ok (.bl true) s) (h : ∀ env, P (.nx env) s) :
    ∀ (js : List Nat) (x : Option D), (∀ j ∈ js, j < l.length) → Wp (forB (callF T (k + n + 1)) [2] true l_law_same_1 none (js.map fun j : Nat => D.int (j : Int)) [some (.tup l), some (.tup l), x] s) P := by
  intro js
  induction js with
  | nil => intro x hj; simp [-List.map_map, forB_nil]; exact h _
  | cons j js ihj =>
    intro x hj
    have hlt := hj j (List.mem_cons_self ..)
    have e1 : atI l (j : Int) = some l[j] := atI_nat (List.getElem?_eq_getElem hlt)
    have hm : ∀ (l : List D) (d : D), d ∈ l → D.pures l = true → D.deeps l ≤ n → d.pure = true ∧ d.deep ≤ n := by
      intro l
      induction l with
      | nil => intro d hd; cases hd
      | cons a l ih2 =>
        intro d hd h1 h2
        simp [-List.map_map] at h1
        rw [D_deeps_cons] at h2
        cases hd with
        | head => exact ⟨h1.1, by omega⟩
        | tail _ hd => exact ih2 d hd h1.2 (by omega)
    obtain ⟨h1, h2⟩ := hm l l[j] (List.getElem_mem hlt) hl hd
    simp [-List.map_map, forB_cons, e1, ih l[j] (List.getElem_mem hlt) h1 h2]
    exact ihj _ fun i hi => hj i (List.mem_cons_of_mem _ hi)
theorem rangeD_nat : ∀ (n lo : Nat), rangeD (lo : Int) n = (List.range' lo n).map fun j : Nat => D.int (j : Int)
  | 0, lo => rfl
  | n + 1, lo => by
    rw [rangeD, List.range'_succ, List.map_cons]
    have := rangeD_nat n (lo + 1)
    rw [← this]
    rfl
mutual
def wd : D → Bool
  | .tup l => decide (l.length ≤ 100000) && wds l
  | _ => true
def wds : List D → Bool
  | [] => true
  | a :: l => wd a && wds l
end
theorem wds_mem : ∀ {l : List D} {d : D}, d ∈ l → wds l = true → wd d = true
  | a :: l, d, h, hw => by
    have hw' : (wd a && wds l) = true := hw
    rw [Bool.and_eq_true] at hw'
    cases h with
    | head => exact hw'.1
    | tail _ h => exact wds_mem h hw'.2
theorem same_ok (k : Nat) : ∀ (n : Nat) (x : D) (s : Sto), x.pure = true → x.deep ≤ n → wd x = true → callF T (k + n + 1) .f_law_same [x, x] s = .ok (.bl true) s := by
  intro n
  induction n with
  | zero =>
    intro x s h1 h2 h3
    apply Wp.eq
    refine w_law_same ?_
    cases x with
    | tup l => simp [-List.map_map] at h2
    | ref _ => cases h1
    | fn _ => cases h1
    | lis _ => cases h1
    | _ => simp [-List.map_map]
  | succ n ih =>
    intro x s h1 h2 h3
    apply Wp.eq
    refine w_law_same ?_
    cases x with
    | ref _ => cases h1
    | fn _ => cases h1
    | lis _ => cases h1
    | tup l =>
      have h3' : (decide (l.length ≤ 100000) && wds l) = true := h3
      rw [Bool.and_eq_true, decide_eq_true_eq] at h3'
      have hm : midI (l.length : Int) = true := by simp [-List.map_map, midI]; omega
      have hm0 : midI 0 = true := by decide
      have hr := rangeD_nat l.length 0
      simp [-List.map_map, hm, hm0]
      rw [show ((0 : Nat) : Int) = 0 from rfl] at hr
      rw [hr]
      have h2' : D.deeps l ≤ n := by simp [-List.map_map] at h2; exact h2
      refine same_loop n k l h1 h2' s _ (fun d hd h4 h5 => ih d s h4 h5 (wds_mem hd h3'.2)) (fun env => ?_) (List.range' 0 l.length) none fun j hj => ?_
      · simp [-List.map_map]
      · have := List.mem_range'_1.mp hj
        omega
    | _ => simp [-List.map_map]
end SB.K61
end

section
set_option maxHeartbeats 1000000
namespace SB.K61
open PySem SB.Ev
/-! ### the draws -/
structure Dr (s : Sto) (p q : Nat) : Prop where
  at_ : ∃ i : Nat, s[p]? = some (.lst [.int (i : Int), .ref q])
  row : ∃ r : List Int, s[q]? = some (.lst (r.map .int))
  ne : p ≠ q
/-- behind some draws: at least as long, old things but p as they were -/
structure Ext (s s' : Sto) (p q : Nat) : Prop where
  len : s.length ≤ s'.length
  old : ∀ i, i < s.length → i ≠ p → s'[i]? = s[i]?
  dr : Dr s' p q
theorem Dr.lt {s : Sto} {p q : Nat} (h : Dr s p q) : p < s.length ∧ q < s.length := by
  obtain ⟨i, hi⟩ := h.at_
  obtain ⟨r, hr⟩ := h.row
  exact ⟨(List.getElem?_eq_some_iff.mp hi).1, (List.getElem?_eq_some_iff.mp hr).1⟩
section
variable {s s1 s2 : Sto} {p q : Nat}
theorem Ext.refl (h : Dr s p q) : Ext s s p q := ⟨Nat.le_refl _, fun _ _ _ => rfl, h⟩
theorem Ext.trans (a : Ext s s1 p q) (b : Ext s1 s2 p q) : Ext s s2 p q := ⟨Nat.le_trans a.len b.len, fun i h n => (b.old i (by have := a.len; omega) n).trans (a.old i h n), b.dr⟩
theorem Ext.get (a : Ext s s1 p q) {i : Nat} {o : O} (h : s[i]? = some o) (n : i ≠ p) : s1[i]? = some o := by
  rw [a.old i (List.getElem?_eq_some_iff.mp h).1 n, h]
theorem Dr.app (h : Dr s p q) (g : Sto) : Dr (s ++ g) p q := by
  obtain ⟨l1, l2⟩ := h.lt
  refine ⟨?_, ?_, h.ne⟩
  · rw [List.getElem?_append_left l1]; exact h.at_
  · rw [List.getElem?_append_left l2]; exact h.row
theorem Ext.app (h : Dr s p q) (g : Sto) : Ext s (s ++ g) p q := ⟨by simp [-List.map_map], fun i hi _ => List.getElem?_append_left hi, h.app g⟩
theorem Dr.set (h : Dr s p q) {i : Nat} (o : O) (h1 : i ≠ p) (h2 : i ≠ q) : Dr (s.set i o) p q := by
  refine ⟨?_, ?_, h.ne⟩
  · rw [List.getElem?_set_ne h1]; exact h.at_
  · rw [List.getElem?_set_ne h2]; exact h.row
/-- a thing that was not there at s is written -/
theorem Ext.wr (a : Ext s s1 p q) (h : Dr s p q) {i : Nat} (o : O) (hi : s.length ≤ i) : Ext s (s1.set i o) p q := by
  obtain ⟨l1, l2⟩ := h.lt
  refine ⟨by simpa [-List.map_map] using a.len, fun j hj n => ?_, a.dr.set o (by omega) (by omega)⟩
  rw [List.getElem?_set_ne (by omega)]
  exact a.old j hj n
theorem kept_of {n : Nat} : ∀ {l r : Sto}, l.length = r.length → (∀ (i : Nat) (a b : O), l[i]? = some a → r[i]? = some b → a = b ∨ O.up n b = true) → keptOk n l r = true
  | [], [], _, _ => rfl
  | [], _ :: _, h, _ => by simp [-List.map_map] at h
  | _ :: _, [], h, _ => by simp [-List.map_map] at h
  | a :: l, b :: r, h, f => by
    show ((decide (a = b) || O.up n b) && keptOk n l r) = true
    have h1 := f 0 a b rfl rfl
    have h2 := kept_of (n := n) (l := l) (r := r) (by simpa [-List.map_map] using h) fun i a b e1 e2 => f (i + 1) a b (by simpa [-List.map_map] using e1) (by simpa [-List.map_map] using e2)
    rw [h2]
    rcases h1 with h1 | h1 <;> simp [-List.map_map, h1]
theorem Ext.cut (a : Ext s s1 p q) (h : Dr s p q) : Ext s (s1.take s.length) p q ∧ (s1.take s.length).length = s.length ∧ keptOk s.length s (s1.take s.length) = true := by
  obtain ⟨l1, l2⟩ := h.lt
  have hl := a.len
  have e : ∀ i, i < s.length → (s1.take s.length)[i]? = s1[i]? := fun i hi => List.getElem?_take_of_lt hi
  have len : (s1.take s.length).length = s.length := by simp [-List.map_map]; omega
  refine ⟨⟨by omega, fun i hi n => (e i hi).trans (a.old i hi n), ⟨?_, ?_, h.ne⟩⟩, len, kept_of len.symm fun i x y e1 e2 => ?_⟩
  · rw [e p l1]; exact a.dr.at_
  · rw [e q l2]; exact a.dr.row
  · have hi := (List.getElem?_eq_some_iff.mp e1).1
    rw [e i hi] at e2
    by_cases hp : i = p
    · subst hp
      obtain ⟨j, hj⟩ := a.dr.at_
      rw [hj] at e2
      cases e2
      exact .inr (by simp [-List.map_map]; exact l2)
    · rw [a.old i hi hp, e1] at e2
      cases e2
      exact .inl rfl
/-- the end of a def that draws: what it made is forgotten -/
theorem gc_cut {d : D} {P : D → Sto → Prop} (a : Ext s s1 p q) (h : Dr s p q) (hd : d.pure = true) (hP : ∀ s2, Ext s s2 p q → s2.length = s.length → P d s2) : Wp (gcR .«mut» s d s1) P := by
  obtain ⟨h1, h2, h3⟩ := a.cut h
  rw [gc_mut, h3, pure_up _ d hd]
  simp [-List.map_map]
  exact hP _ h1 h2
def DrawP (s : Sto) (p q : Nat) (A : D → Prop) (d : D) (s' : Sto) : Prop := A d ∧ Ext s s' p q ∧ s'.length = s.length
def isNum (lo hi : Int) (d : D) : Prop := ∃ v, d = .int v ∧ lo ≤ v ∧ v < hi
theorem next_ok (k : Nat) (h : Dr s p q) (n : Int) (hn : 0 < n) : Wp (callF T (k + 1) .f_law_next [.ref p, .int n] s) (DrawP s p q (isNum 0 n)) := by
  refine w_law_next ?_
  obtain ⟨i, hi⟩ := h.at_
  obtain ⟨r, hr⟩ := h.row
  obtain ⟨l1, l2⟩ := h.lt
  have hs : ∀ env : Env, setR env (.ref p) (.int 0) (.int ((i : Int) + 1)) s = .ok (.nx env) (s.set p (.lst [.int ((i : Int) + 1), .ref q])) := fun env => by
    rw [set_lst (j := 0) hi (by simp [-List.map_map, ixN])]
    rfl
  have g1 : (s.set p (.lst [.int ((i : Int) + 1), .ref q]))[p]? = some (.lst [.int ((i : Int) + 1), .ref q]) := by rw [List.getElem?_set_self l1]
  have g2 : (s.set p (.lst [.int ((i : Int) + 1), .ref q]))[q]? = some (.lst (r.map .int)) := by rw [List.getElem?_set_ne h.ne, hr]
  have ex : Ext s (s.set p (.lst [.int ((i : Int) + 1), .ref q])) p q := by
    refine ⟨by simp [-List.map_map], fun j hj n => List.getElem?_set_ne (Ne.symm n), ⟨⟨i + 1, by rw [g1]; simp [-List.map_map]⟩, ⟨r, g2⟩, h.ne⟩⟩
  have e0 : idxOp (.ref p) (.int 0) s = .ok (.int i) s := by rw [ix_ref hi]; simp [-List.map_map]
  simp [-List.map_map, e0, hs]
  have hlen : (s.set p (.lst [.int ((i : Int) + 1), .ref q])).length = s.length := by simp [-List.map_map]
  generalize s.set p (.lst [.int ((i : Int) + 1), .ref q]) = s' at g1 g2 ex hlen
  have e1 : idxOp (.ref p) (.int 1) s' = .ok (.ref q) s' := by rw [ix_ref g1]; simp [-List.map_map]
  have e2 : bltOp .len [.ref q] s' = .ok (.int r.length) s' := by rw [len_ref g2]; simp [-List.map_map]
  simp [-List.map_map, e1, e2]
  by_cases hb : r.length ≤ i
  · simp [-List.map_map, hb]
    exact ⟨⟨0, rfl, Int.le_refl _, hn⟩, ex, hlen⟩
  · have hlt : i < r.length := by omega
    have e3 : idxOp (.ref q) (.int (i : Int)) s' = .ok (.int r[i]) s' := by
      rw [ix_ref g2, atI_nat (d := .int r[i]) (by rw [List.getElem?_map, List.getElem?_eq_getElem hlt]; rfl)]
      rfl
    simp [-List.map_map, hb, e3, hn]
    exact ⟨⟨_, rfl, Int.emod_nonneg _ (by omega), Int.emod_lt_of_pos _ hn⟩, ex, hlen⟩
/-! the row of draws -/
def rowI (c : D) (s : Sto) (l : List Int) (env : Env) (s' : Sto) : Prop :=
  ∃ (row : List Int) (rest mixed : Int) (g : Bool) (x : Option D), s' = s ++ [.lst (row.map .int)] ∧ row.length + l.length ≤ 160 ∧ env = [some c, some (.ref s.length), some (.int rest), some (.int mixed), some (.bl g), x]
theorem rg_len : ∀ (n : Nat) (lo : Int), (rg lo n).length = n
  | 0, _ => rfl
  | n + 1, lo => by rw [rg, List.length_cons, rg_len n]
theorem draws_ok (k : Nat) (c : Int) (s : Sto) : Wp (callF T (k + 1) .f_law_draws [.int c] s) fun d s' => d = .ref (s.length + 1) ∧ s'.length = s.length + 2 ∧ (∀ i, i < s.length → s'[i]? = s[i]?) ∧ Dr s' (s.length + 1) s.length := by
  refine w_law_draws ?_
  have m1 : midI 160 = true := by decide
  have m0 : midI 0 = true := by decide
  have p1 : smallI 10 = true := by decide
  simp [-List.map_map, m0, m1, p1, rangeD_rg]
  refine for_inv D.int (rowI (.int c) s) (fun a l env s' h => ?_) (fun env s' h => ?_) (rg 0 160) _ _ ⟨[], _, _, _, none, rfl, by rw [rg_len]; simp [-List.map_map], rfl⟩
  · obtain ⟨row, rest, mixed, g, x, rfl, hl, rfl⟩ := h
    refine ⟨rfl, _, bT1, ?_⟩
    have l0 : (s ++ [O.lst (row.map .int)])[s.length]? = some (.lst (row.map .int)) := by simp [-List.map_map]
    have hrow : row.length < 16777216 := by simp [-List.map_map] at hl; omega
    have hl' : row.length + 1 + l.length ≤ 160 := by simp [-List.map_map] at hl; omega
    have nx : ∀ v r m : Int, rowI (.int c) s l [some (.int c), some (.ref s.length), some (.int r), some (.int m), some (.bl g), some (.int a)] (s ++ [.lst (row.map .int ++ [.int v])]) := fun v r m =>
      ⟨row ++ [v], r, m, g, _, by simp [-List.map_map], by simp [-List.map_map]; omega, rfl⟩
    have s1 : ∀ i : Int, (smallI i || smallI 48271) = true := fun i => by
      have : smallI 48271 = true := by decide
      simp [-List.map_map, this]
    cases g with
    | true =>
      by_cases h0 : 0 < rest
      · simp [-List.map_map, h0, recv_app l0, app_r l0, hrow]
        exact nx _ _ _
      · simp [-List.map_map, h0, recv_app l0, app_r l0, hrow, s1]
        exact nx _ _ _
    | false =>
      simp [-List.map_map, recv_app l0, app_r l0, hrow, s1]
      exact nx _ _ _
  · obtain ⟨row, rest, mixed, g, x, rfl, hl, rfl⟩ := h
    refine ⟨rfl, ?_⟩
    simp [-List.map_map]
    refine ⟨fun i hi => List.getElem?_append_left hi, ⟨⟨0, by simp [-List.map_map]⟩, ⟨row, by simp [-List.map_map]⟩, by omega⟩⟩
theorem asc_iff : ∀ (l : List Int) (a : Int), asc a l = true ↔ l.Pairwise (· < ·) ∧ ∀ x ∈ l, a < x ∧ x ≤ 99
  | [], a => by simp [-List.map_map, asc]
  | b :: l, a => by
    rw [asc, List.pairwise_cons]
    simp only [Bool.and_eq_true, decide_eq_true_eq, asc_iff l b]
    constructor
    · rintro ⟨⟨h1, h2⟩, h3, h4⟩
      refine ⟨⟨fun x hx => (h4 x hx).1, h3⟩, fun x hx => ?_⟩
      rcases List.mem_cons.mp hx with e | hx
      · subst e; exact ⟨h1, h2⟩
      · have := h4 x hx; omega
    · rintro ⟨⟨h1, h2⟩, h3⟩
      exact ⟨h3 b (List.mem_cons_self ..), h2, fun x hx => ⟨h1 x hx, (h3 x (List.mem_cons_of_mem _ hx)).2⟩⟩
theorem asc_sub {l r : List Int} (h : asc 0 l = true) (hs : r.Sublist l) : asc 0 r = true := by
  rw [asc_iff] at h ⊢
  exact ⟨h.1.sublist hs, fun x hx => h.2 x (hs.subset hx)⟩
theorem asc_snoc {l : List Int} {x : Int} (h : asc 0 l = true) (h1 : ∀ y ∈ l, y < x) (h2 : 0 < x) (h3 : x ≤ 99) : asc 0 (l ++ [x]) = true := by
  rw [asc_iff] at h ⊢
  refine ⟨List.pairwise_append.mpr ⟨h.1, List.pairwise_singleton _ _, fun a ha b hb => ?_⟩, fun y hy => ?_⟩
  · rw [List.mem_singleton.mp hb]; exact h1 a ha
  · rcases List.mem_append.mp hy with hy | hy
    · exact h.2 y hy
    · rw [List.mem_singleton.mp hy]; exact ⟨h2, h3⟩
def idsI (s : Sto) (p q : Nat) (d1 : D) (m : Nat) (l : List Int) (env : Env) (s' : Sto) : Prop :=
  ∃ (ids : List Int) (v : Int) (x : Option D), Ext s s' p q ∧ s'.length = s.length + 1 ∧ s'[s.length]? = some (.lst (ids.map .int)) ∧ asc 0 ids = true ∧ (∀ y ∈ ids, y ≤ v) ∧ 0 ≤ v ∧ v ≤ 4 * (ids.length : Int) ∧ ids.length + l.length = m ∧ env = [some (.ref p), some d1, some (.ref s.length), some (.int v), x]
def IdsP (s : Sto) (p q : Nat) (d : D) (s' : Sto) : Prop := ∃ l : List Int, d = .ref s.length ∧ Ext s s' p q ∧ s'.length = s.length + 1 ∧ s'[s.length]? = some (.lst (l.map .int)) ∧ asc 0 l = true ∧ l.length ≤ 5
theorem lawids_ok (k : Nat) (h : Dr s p q) : Wp (callF T (k + 2) .f_law_ids [.ref p, .int 4] s) (IdsP s p q) := by
  refine w_law_ids ?_
  simp [-List.map_map]
  have h0 : Dr (s ++ [O.lst []]) p q := h.app _
  refine (next_ok k h0 5 (by decide)).imp ?_
  rintro d s1 ⟨⟨m, rfl, m0, m5⟩, e1, len1⟩
  have hm0 : midI 0 = true := by decide
  have hm : midI m = true := by simp [-List.map_map, midI]; omega
  simp [-List.map_map, hm0, hm, rangeD_rg]
  have x1 : Ext s s1 p q := (Ext.app h _).trans e1
  have ll : s1.length = s.length + 1 := by simpa [-List.map_map] using len1
  obtain ⟨lp, lq⟩ := h.lt
  have g1 : s1[s.length]? = some (.lst (([] : List Int).map .int)) := e1.get (by simp [-List.map_map]) (by omega)
  refine for_inv D.int (idsI s p q (.int 4) m.toNat) (fun a l env s' hI => ?_) (fun env s' hI => ?_) (rg 0 m.toNat) _ _ ⟨[], 0, none, x1, ll, g1, rfl, (fun _ h => by cases h), Int.le_refl _, by simp [-List.map_map], by rw [rg_len]; simp [-List.map_map], rfl⟩
  · obtain ⟨ids, v, x, ex, len, g, ha, hy, v0, v4, hl, rfl⟩ := hI
    refine ⟨rfl, _, bT1, ?_⟩
    simp [-List.map_map]
    refine (next_ok k ex.dr 4 (by decide)).imp ?_
    rintro d s2 ⟨⟨w, rfl, w0, w4⟩, e2, len2⟩
    have g2 := e2.get g (by omega)
    have hi : ids.length < 16777216 := by simp [-List.map_map] at hl; omega
    simp [-List.map_map, recv_app g2, app_r g2, hi]
    have hl' : ids.length + (l.length + 1) = m.toNat := by simpa [-List.map_map] using hl
    refine ⟨ids ++ [v + 1 + w], v + 1 + w, _, (ex.trans e2).wr h _ (Nat.le_refl _), by simp [-List.map_map]; omega, ?_, asc_snoc ha (fun y h => by have := hy y h; omega) (by omega) ?_, fun y h => ?_, by omega, by simp [-List.map_map]; omega, by simp [-List.map_map]; omega, rfl⟩
    · rw [List.getElem?_set_self (by omega)]
      simp [-List.map_map]
    · have : (ids.length : Int) ≤ 3 := by omega
      omega
    · rcases List.mem_append.mp h with h | h
      · have := hy y h; omega
      · rw [List.mem_singleton.mp h]; omega
  · obtain ⟨ids, v, x, ex, len, g, ha, hy, v0, v4, hl, rfl⟩ := hI
    refine ⟨rfl, ?_⟩
    simp [-List.map_map]
    refine (next_ok k ex.dr 9 (by decide)).imp ?_
    rintro d s2 ⟨⟨w, rfl, w0, w4⟩, e2, len2⟩
    have g2 := e2.get g (by omega)
    have hids : ids.length ≤ 4 := by simp [-List.map_map] at hl; omega
    have hi : ids.length < 16777216 := by omega
    by_cases hw : w = 1
    · simp [-List.map_map, hw, recv_app g2, app_r g2, hi]
      refine ⟨ids ++ [99], rfl, (ex.trans e2).wr h _ (Nat.le_refl _), by simp [-List.map_map]; omega, ?_, asc_snoc ha (fun y h => by have := hy y h; omega) (by omega) (by omega), by simp [-List.map_map]; omega⟩
      rw [List.getElem?_set_self (by omega)]
      simp [-List.map_map]
    · simp [-List.map_map, hw]
      exact ⟨ids, rfl, ex.trans e2, by omega, g2, ha, by omega⟩
/-! ids parted -/
def spI (s : Sto) (p q r : Nat) (l0 : List Int) (l : List Int) (env : Env) (s' : Sto) : Prop :=
  ∃ (pre a b : List Int) (x : Option D), l0 = pre ++ l ∧ a.Sublist pre ∧ b.Sublist pre ∧ (∀ y ∈ a, y ∉ b) ∧ Ext s s' p q ∧ s'.length = s.length + 2 ∧ s'[s.length]? = some (.lst (a.map .int)) ∧ s'[s.length + 1]? = some (.lst (b.map .int)) ∧
    env = [some (.ref p), some (.ref r), some (.ref s.length), some (.ref (s.length + 1)), x]
def SplP (s : Sto) (p q : Nat) (n : Nat) (d : D) (s' : Sto) : Prop :=
  ∃ a b : List Int, d = .ref (s.length + 2) ∧ Ext s s' p q ∧ s'.length = s.length + 3 ∧ s'[s.length]? = some (.lst (a.map .int)) ∧ s'[s.length + 1]? = some (.lst (b.map .int)) ∧ s'[s.length + 2]? = some (.lst [.ref s.length, .ref (s.length + 1)]) ∧
    asc 0 a = true ∧ asc 0 b = true ∧ com a b = false ∧ a.length ≤ n ∧ b.length ≤ n
theorem split_ok (k : Nat) (h : Dr s p q) (r : Nat) (l0 : List Int) (hr : s[r]? = some (.lst (l0.map .int))) (hrp : r ≠ p) (ha : asc 0 l0 = true) (hlen : l0.length ≤ 1000) : Wp (callF T (k + 2) .f_law_split [.ref p, .ref r] s) (SplP s p q l0.length) := by
  refine w_law_split ?_
  obtain ⟨lp, lq⟩ := h.lt
  have lr := (List.getElem?_eq_some_iff.mp hr).1
  have hr2 : (s ++ [O.lst [], O.lst []])[r]? = some (.lst (l0.map .int)) := by rw [List.getElem?_append_left lr]; exact hr
  simp [-List.map_map]
  rw [items_r hr2]
  simp [-List.map_map]
  have pw := ((asc_iff l0 0).mp ha).1
  refine for_inv D.int (spI s p q r l0) (fun y l env s' hI => ?_) (fun env s' hI => ?_) l0 _ _ ⟨[], [], [], none, rfl, .slnil, .slnil, (fun _ h => by cases h), Ext.app h _, by simp [-List.map_map], by simp [-List.map_map], by simp [-List.map_map], rfl⟩
  · obtain ⟨pre, a, b, x, e, sa, sb, dj, ex, len, g1, g2, rfl⟩ := hI
    refine ⟨watch_some (ex.get hr hrp), _, bT1, ?_⟩
    have np : y ∉ pre := fun hy => by
      rw [e] at pw
      have := (List.pairwise_append.mp pw).2.2 y hy y (List.mem_cons_self ..)
      omega
    have hal : a.length < 16777216 := by have := sa.length_le; have : pre.length ≤ l0.length := by rw [e]; simp [-List.map_map]
                                         omega
    have hbl : b.length < 16777216 := by have := sb.length_le; have : pre.length ≤ l0.length := by rw [e]; simp [-List.map_map]
                                         omega
    simp [-List.map_map]
    refine (next_ok k ex.dr 5 (by decide)).imp ?_
    rintro d s2 ⟨⟨w, rfl, w0, w5⟩, e2, len2⟩
    have k1 := e2.get g1 (by omega)
    have k2 := e2.get g2 (by omega)
    by_cases hw : w = 1
    · simp [-List.map_map, hw, recv_app k2, app_r k2, hbl]
      refine ⟨pre ++ [y], a, b ++ [y], _, by rw [e]; simp [-List.map_map], sa.trans (List.sublist_append_left _ _), sb.append (List.Sublist.refl _), fun z hz hz2 => ?_, (ex.trans e2).wr h _ (by omega), by simp [-List.map_map]; omega, ?_, ?_, rfl⟩
      · rcases List.mem_append.mp hz2 with q | q
        · exact dj z hz q
        · rw [List.mem_singleton.mp q] at hz
          exact np (sa.subset hz)
      · rw [List.getElem?_set_ne (by omega), k1]
      · rw [List.getElem?_set_self (by omega)]
        simp [-List.map_map]
    · simp [-List.map_map, hw, recv_app k1, app_r k1, hal]
      refine ⟨pre ++ [y], a ++ [y], b, _, by rw [e]; simp [-List.map_map], sa.append (List.Sublist.refl _), sb.trans (List.sublist_append_left _ _), fun z hz hz2 => ?_, (ex.trans e2).wr h _ (by omega), by simp [-List.map_map]; omega, ?_, ?_, rfl⟩
      · rcases List.mem_append.mp hz with q | q
        · exact dj z q hz2
        · rw [List.mem_singleton.mp q] at hz2
          exact np (sb.subset hz2)
      · rw [List.getElem?_set_self (by omega)]
        simp [-List.map_map]
      · rw [List.getElem?_set_ne (by omega), k2]
  · obtain ⟨pre, a, b, x, e, sa, sb, dj, ex, len, g1, g2, rfl⟩ := hI
    rw [List.append_nil] at e
    subst e
    refine ⟨watch_some (ex.get hr hrp), ?_⟩
    simp [-List.map_map]
    refine ⟨a, b, by rw [len], ⟨by simp [-List.map_map]; omega, fun i hi n => by rw [List.getElem?_append_left (by omega)]; exact ex.old i hi n, ex.dr.app _⟩, by simp [-List.map_map]; omega, ?_, ?_, ?_, asc_sub ha sa, asc_sub ha sb, ?_, sa.length_le, sb.length_le⟩
    · rw [List.getElem?_append_left (by omega)]; exact g1
    · rw [List.getElem?_append_left (by omega)]; exact g2
    · rw [← len]; simp [-List.map_map]
    · simp [-List.map_map, com]
      exact dj
end
end SB.K61
end

section
set_option maxHeartbeats 1000000
namespace SB.K61
open PySem SB.Ev
section
variable {s s1 s2 : Sto} {p q : Nat}
def Leaf.sm : Leaf → Prop
  | .cho a b _ => a.length ≤ 5 ∧ b.length ≤ 5
  | _ => True
def IsLeaf (d : D) : Prop := ∃ l : Leaf, d = l.d ∧ l.ok = true ∧ l.sm
theorem leaf_gen (k : Nat) (h : Dr s p q) : Wp (callF T (k + 3) .f_law_leaf [.ref p] s) (DrawP s p q IsLeaf) := by
  refine w_law_leaf ?_
  have sm10 : smallI 10 = true := by decide
  simp [-List.map_map]
  refine (next_ok _ h 8 (by decide)).imp ?_
  rintro d s1 ⟨⟨v, rfl, v0, v8⟩, e1, n1⟩
  by_cases h4 : v < 4
  · simp [-List.map_map, h4]
    refine (next_ok _ e1.dr 12 (by decide)).imp ?_
    rintro d s2 ⟨⟨a, rfl, a0, a1⟩, e2, n2⟩
    simp [-List.map_map]
    refine (next_ok _ e2.dr 9 (by decide)).imp ?_
    rintro d s3 ⟨⟨b, rfl, b0, b1⟩, e3, n3⟩
    simp [-List.map_map]
    refine (next_ok _ e3.dr 9 (by decide)).imp ?_
    rintro d s4 ⟨⟨c, rfl, c0, c1⟩, e4, n4⟩
    have ex := ((e1.trans e2).trans e3).trans e4
    by_cases hc : c = 1
    · simp [-List.map_map, hc, sm10]
      refine gc_cut ex h (by simp [-List.map_map]) fun s5 e5 l5 => ⟨⟨.num (-1000000000000000) 1000000000000000, by simp [-List.map_map], by decide, trivial⟩, e5, l5⟩
    · simp [-List.map_map, hc]
      refine gc_cut ex h (by simp [-List.map_map]) fun s5 e5 l5 => ⟨⟨.num (a - 6) (a - 6 + b), by simp [-List.map_map], by simp [-List.map_map, Leaf.ok]; omega, trivial⟩, e5, l5⟩
  · simp [-List.map_map, h4]
    by_cases h6 : v < 6
    · simp [-List.map_map, h6]
      refine (next_ok _ e1.dr 3 (by decide)).imp ?_
      rintro d s2 ⟨⟨a, rfl, a0, a1⟩, e2, n2⟩
      try simp [-List.map_map]
      refine (next_ok _ e2.dr 4 (by decide)).imp ?_
      rintro d s3 ⟨⟨b, rfl, b0, b1⟩, e3, n3⟩
      simp [-List.map_map]
      refine (next_ok _ e3.dr 9 (by decide)).imp ?_
      rintro d s4 ⟨⟨c, rfl, c0, c1⟩, e4, n4⟩
      have ex := ((e1.trans e2).trans e3).trans e4
      by_cases hc : c = 1
      · simp [-List.map_map, hc]
        refine gc_cut ex h (by simp [-List.map_map]) fun s5 e5 l5 => ⟨⟨.txt a 40, by simp [-List.map_map], by simp [-List.map_map, Leaf.ok]; omega, trivial⟩, e5, l5⟩
      · simp [-List.map_map, hc]
        refine gc_cut ex h (by simp [-List.map_map]) fun s5 e5 l5 => ⟨⟨.txt a (a + b), by simp [-List.map_map], by simp [-List.map_map, Leaf.ok]; omega, trivial⟩, e5, l5⟩
    · simp [-List.map_map, h6]
      refine (lawids_ok _ e1.dr).imp ?_
      rintro d s2 ⟨ids, rfl, e2, n2, g2, hasc, hids⟩
      have hp2 : s1.length ≠ p := by have := e1.dr.lt; omega
      simp [-List.map_map]
      refine (split_ok _ e2.dr s1.length ids g2 hp2 hasc (by omega)).imp ?_
      rintro d s3 ⟨a, b, rfl, e3, n3, g3, g4, g5, ha, hb, hab, la, lb⟩
      have i1 : idxOp (.ref (s2.length + 2)) (.int 1) s3 = .ok (.ref (s2.length + 1)) s3 := by rw [ix_ref g5]; simp [-List.map_map]
      try simp [-List.map_map]
      refine (next_ok _ e3.dr 2 (by decide)).imp ?_
      rintro d s4 ⟨⟨c, rfl, c0, c1⟩, e4, n4⟩
      have hlp := e2.dr.lt
      have k3 := e4.get g3 (by omega)
      have k4 := e4.get g4 (by omega)
      have k5 := e4.get g5 (by omega)
      have i1 : idxOp (.ref (s2.length + 2)) (.int 1) s4 = .ok (.ref (s2.length + 1)) s4 := by rw [ix_ref k5]; simp [-List.map_map]
      have i0 : idxOp (.ref (s2.length + 2)) (.int 0) s4 = .ok (.ref s2.length) s4 := by rw [ix_ref k5]; simp [-List.map_map]
      have ex := ((e1.trans e2).trans e3).trans e4
      have fin : ∀ o : Bool, (o || (b.isEmpty && !a.isEmpty)) = true → Wp (gcR .«mut» s (.tup [.str "choice", .tup (a.map .int), .tup (b.map .int), .bl o]) s4) (DrawP s p q IsLeaf) := fun o ho =>
        gc_cut ex h (by simp [-List.map_map]) fun s5 e5 l5 => ⟨⟨.cho a b o, by simp [-List.map_map], by simp only [Leaf.ok, idsOk, ha, hb, hab, ho]; rfl, by omega, by omega⟩, e5, l5⟩
      by_cases hc : c = 1
      · simp [-List.map_map, hc, i0, i1, tuple_r k3, tuple_r k4]
        exact fin true rfl
      · simp [-List.map_map, hc, i0, i1, tuple_r k3, tuple_r k4, len_ref k3, len_ref k4]
        cases b with
        | nil =>
          cases a with
          | nil => simpa [-List.map_map] using fin true rfl
          | cons x a => simpa [-List.map_map] using fin false rfl
        | cons y b => simpa [-List.map_map] using fin true rfl
/-! values of leaves -/
def chars : Str := Str.ofString " !\"#$&'()*+,-./0123456789:;<=>?@ABCDEFGHIJKLMNOPQRSTUVWXYZ[\\]^_`" ++ Str.ofString "abcdefghijklmnopqrstuvwxyz{|}~"
theorem chars_len : chars.cps.toList.length = 94 := by decide +kernel
theorem chars_ok : chars.cps.toList.all codeOk = true := by decide +kernel
theorem char_gen (k : Nat) (v : Int) (s : Sto) : ∃ c, codeOk c = true ∧ callF T (k + 1) .f_law_char [.int v] s = .ok (.str ⟨#[c]⟩) s := by
  have h0 : (0 : Int) ≤ v % 94 := Int.emod_nonneg _ (by decide)
  have h1 : v % 94 < 94 := Int.emod_lt_of_pos _ (by decide)
  obtain ⟨j, hj⟩ : ∃ j : Nat, v % 94 = (j : Int) := ⟨(v % 94).toNat, by omega⟩
  have hlt : j < chars.cps.toList.length := by rw [chars_len]; omega
  refine ⟨chars.cps.toList[j], List.all_eq_true.mp chars_ok _ (List.getElem_mem hlt), ?_⟩
  apply Wp.eq
  refine w_law_char ?_
  have l1 : (Str.ofString " !\"#$&'()*+,-./0123456789:;<=>?@ABCDEFGHIJKLMNOPQRSTUVWXYZ[\\]^_`").length + (Str.ofString "abcdefghijklmnopqrstuvwxyz{|}~").length ≤ 16777216 := by decide +kernel
  have l2 : chars.length ≤ 16777216 := by decide +kernel
  have l3 : atI chars.cps.toList (v % 94) = some chars.cps.toList[j] := by rw [hj]; exact atI_nat (List.getElem?_eq_getElem hlt)
  simp [-List.map_map, l1]
  rw [show Str.ofString " !\"#$&'()*+,-./0123456789:;<=>?@ABCDEFGHIJKLMNOPQRSTUVWXYZ[\\]^_`" ++ Str.ofString "abcdefghijklmnopqrstuvwxyz{|}~" = chars from rfl, l3]
  simp [-List.map_map, l2]
def bigI (s : Sto) (p q : Nat) (l : List Int) (env : Env) (s' : Sto) : Prop := ∃ (v : Int) (x : Option D), Ext s s' p q ∧ s'.length = s.length ∧ env = [some (.ref p), some (.int v), x]
theorem big_gen (k : Nat) (h : Dr s p q) : Wp (callF T (k + 2) .f_law_big [.ref p] s) (DrawP s p q fun d => ∃ v, d = .int v) := by
  refine w_law_big ?_
  have m6 : midI 6 = true := by decide
  have m0 : midI 0 = true := by decide
  have s1 : ∀ i : Int, (smallI i || smallI 1000) = true := fun i => by
    have : smallI 1000 = true := by decide
    simp [-List.map_map, this]
  simp [-List.map_map, m0, m6, rangeD_rg]
  refine for_inv D.int (bigI s p q) (fun a l env s' hI => ?_) (fun env s' hI => ?_) (rg 0 6) _ _ ⟨0, none, Ext.refl h, rfl, rfl⟩
  · obtain ⟨v, x, ex, len, rfl⟩ := hI
    refine ⟨rfl, _, bT1, ?_⟩
    simp [-List.map_map, s1]
    refine (next_ok k ex.dr 1000 (by decide)).imp ?_
    rintro d s2 ⟨⟨w, rfl, w0, w1⟩, e2, n2⟩
    simp [-List.map_map]
    exact ⟨_, _, ex.trans e2, by omega, rfl⟩
  · obtain ⟨v, x, ex, len, rfl⟩ := hI
    refine ⟨rfl, ?_⟩
    simp [-List.map_map]
    exact ⟨⟨v, rfl⟩, ex, len⟩
theorem join_len : ∀ l : List Nat, (Str.join (Str.ofString "") (l.map fun c => (⟨#[c]⟩ : Str))).cps.toList = l
  | [] => rfl
  | [c] => rfl
  | c :: d :: l => by
    have ih := join_len (d :: l)
    have e : Str.join (Str.ofString "") ((c :: d :: l).map fun c => (⟨#[c]⟩ : Str)) = (⟨#[c]⟩ : Str) ++ Str.ofString "" ++ Str.join (Str.ofString "") ((d :: l).map fun c => (⟨#[c]⟩ : Str)) := rfl
    rw [e]
    have e2 : ∀ a b : Str, (a ++ b).cps.toList = a.cps.toList ++ b.cps.toList := fun a b => by
      show (a.cps ++ b.cps).toList = _
      simp [-List.map_map]
    rw [e2, e2, ih, cps_of]
    simp [-List.map_map]
def txI (s : Sto) (p q : Nat) (m : Nat) (l : List Int) (s' : Sto) (acc : List D) : Prop :=
  ∃ cs : List Nat, acc = (cs.map fun c => (⟨#[c]⟩ : Str)).map D.str ∧ cs.all codeOk = true ∧ cs.length + l.length = m ∧ Ext s s' p q ∧ s'.length = s.length
theorem sum1 (l : List Nat) : ((l.map fun c => (⟨#[c]⟩ : Str)).map fun y => y.length).sum = l.length := by
  induction l with
  | nil => rfl
  | cons a l ih =>
    rw [List.map_cons, List.map_cons, List.sum_cons, ih]
    show 1 + l.length = l.length + 1
    omega
theorem join_r {z : Str} {n : Nat} {r : List Str} {s : Sto} (h : s[n]? = some (.lst (r.map .str))) (hl : (r.map fun y => y.length).sum + r.length * z.length ≤ 16777216) : metOp .join (.str z) (.ref n) s = .ok (.str (Str.join z r)) s := by
  simp [-List.map_map, metOp, lstAt, h, allStr_map, hl]
def LvP (l : Leaf) (d : D) : Prop := ∃ v : Dv, d = v.d ∧ leafVal l v = true ∧ v.fit
theorem val_gen (k : Nat) (h : Dr s p q) (l : Leaf) (hl : l.ok = true) (hc : l.cho? = false) : Wp (callF T (k + 3) .f_law_leaf_value [l.d, .ref p] s) (DrawP s p q (LvP l)) := by
  refine w_law_leaf_value ?_
  cases l with
  | cho a b o => cases hc
  | num lo hi =>
    have hok : -1000000000000000 ≤ lo ∧ lo ≤ hi ∧ hi ≤ 1000000000000000 := by simpa [-List.map_map, Leaf.ok] using hl
    simp [-List.map_map]
    refine (next_ok _ h 5 (by decide)).imp ?_
    rintro d s1 ⟨⟨v, rfl, v0, v5⟩, e1, n1⟩
    by_cases h1 : v = 1
    · simp [-List.map_map, h1]
      exact gc_cut e1 h rfl fun s5 e5 l5 => ⟨⟨.int lo, rfl, by simp [-List.map_map, leafVal]; omega, trivial⟩, e5, l5⟩
    · by_cases h2 : v = 2
      · simp [-List.map_map, h2]
        exact gc_cut e1 h rfl fun s5 e5 l5 => ⟨⟨.int hi, rfl, by simp [-List.map_map, leafVal]; omega, trivial⟩, e5, l5⟩
      · simp [-List.map_map, h1, h2]
        refine (big_gen _ e1.dr).imp ?_
        rintro d s2 ⟨⟨w, rfl⟩, e2, n2⟩
        have hp : 0 < hi - lo + 1 := by omega
        have w0 := Int.emod_nonneg w (show hi - lo + 1 ≠ 0 by omega)
        have w1 := Int.emod_lt_of_pos w hp
        simp [-List.map_map, hp]
        exact gc_cut (e1.trans e2) h rfl fun s5 e5 l5 => ⟨⟨.int (lo + w % (hi - lo + 1)), rfl, by simp [-List.map_map, leafVal]; omega, trivial⟩, e5, l5⟩
  | txt lo hi =>
    have hok : 0 ≤ lo ∧ lo ≤ hi ∧ hi ≤ 40 := by simpa [-List.map_map, Leaf.ok] using hl
    simp [-List.map_map]
    refine (next_ok _ h (hi - lo + 1) (by omega)).imp ?_
    rintro d s1 ⟨⟨v, rfl, v0, v5⟩, e1, n1⟩
    have m0 : midI 0 = true := by decide
    have mm : midI (lo + v) = true := by simp [-List.map_map, midI]; omega
    simp [-List.map_map, m0, mm, rangeD_rg]
    refine lc_inv D.int (txI s p q (lo + v).toNat) (fun a r s' acc hI => ?_) (fun s' acc hI => ?_) (rg 0 (lo + v).toNat) _ _ ⟨[], rfl, rfl, by rw [rg_len]; simp [-List.map_map], e1, n1⟩
    · obtain ⟨cs, rfl, hcs, hlen, ex, n⟩ := hI
      refine ⟨rfl, _, bT1, ?_⟩
      simp [-List.map_map]
      refine (next_ok _ ex.dr 94 (by decide)).imp ?_
      rintro d s2 ⟨⟨w, rfl, w0, w1⟩, e2, n2⟩
      obtain ⟨c, hc, hcall⟩ := char_gen (k + 1) w s2
      simp [-List.map_map, hcall]
      exact ⟨cs ++ [c], by simp [-List.map_map], by rw [List.all_append, hcs]; simp [-List.map_map, hc], by simp [-List.map_map] at hlen ⊢; omega, ex.trans e2, by omega⟩
    · obtain ⟨cs, rfl, hcs, hlen, ex, n⟩ := hI
      refine ⟨rfl, ?_⟩
      have hn : cs.length ≤ 40 := by simp [-List.map_map] at hlen; omega
      have hle : cs.length ≤ 16777216 := by omega
      have g : (s' ++ [O.lst ((cs.map fun c => (⟨#[c]⟩ : Str)).map D.str)])[s'.length]? = some (.lst ((cs.map fun c => (⟨#[c]⟩ : Str)).map .str)) := by simp [-List.map_map]
      have hsum : ((cs.map fun c => (⟨#[c]⟩ : Str)).map fun y => y.length).sum + (cs.map fun c => (⟨#[c]⟩ : Str)).length * (Str.ofString "").length ≤ 16777216 := by
        rw [sum1, show (Str.ofString "").length = 0 by decide +kernel]
        omega
      simp [-List.map_map, hle, join_r g hsum]
      have jl := join_len cs
      have jn : (Str.join (Str.ofString "") (cs.map fun c => (⟨#[c]⟩ : Str))).length = cs.length := by
        show (Str.join (Str.ofString "") (cs.map fun c => (⟨#[c]⟩ : Str))).cps.size = _
        rw [← Array.length_toList, jl]
      have hcl : (cs.length : Int) = lo + v := by simp [-List.map_map] at hlen; omega
      refine gc_cut (⟨by simp [-List.map_map]; have := ex.len; omega, fun i hi nn => by rw [List.getElem?_append_left (by have := ex.len; omega)]; exact ex.old i hi nn, ex.dr.app _⟩) h rfl fun s5 e5 l5 => ⟨⟨.str _, rfl, ?_, ?_⟩, e5, l5⟩
      · simp only [leafVal, txtOk, jl, hcs, jn, hcl]
        simp [-List.map_map]
        omega
      · show Str.length _ ≤ 16777216
        rw [jn]
        omega
end
end SB.K61
end

section
set_option maxHeartbeats 1000000
namespace SB.K61
open PySem SB.Ev
theorem wd_tup {l : List D} : wd (.tup l) = (decide (l.length ≤ 100000) && wds l) := rfl
@[simp] theorem wd_int {i : Int} : wd (.int i) = true := nr rfl
@[simp] theorem wd_str {i : Str} : wd (.str i) = true := nr rfl
@[simp] theorem wd_bl {i : Bool} : wd (.bl i) = true := nr rfl
@[simp] theorem wd_non : wd .non = true := nr rfl
@[simp] theorem wds_nil : wds [] = true := nr rfl
@[simp] theorem wds_cons {a : D} {l : List D} : wds (a :: l) = (wd a && wds l) := nr rfl
theorem wds_map {α : Type} {f : α → D} {l : List α} (h : ∀ a ∈ l, wd (f a) = true) : wds (l.map f) = true := by
  induction l with
  | nil => rfl
  | cons a l ih => simp [-List.map_map, h a (List.mem_cons_self ..), ih fun x hx => h x (List.mem_cons_of_mem _ hx)]
theorem Leaf.wd_ {l : Leaf} (h : l.sm) : wd l.d = true := by
  cases l with
  | num a b => simp [-List.map_map, wd_tup]
  | txt a b => simp [-List.map_map, wd_tup]
  | cho a b o =>
    obtain ⟨h1, h2⟩ := h
    have e1 : wds (a.map D.int) = true := wds_map fun _ _ => by simp [-List.map_map]
    have e2 : wds (b.map D.int) = true := wds_map fun _ _ => by simp [-List.map_map]
    simp [-List.map_map, wd_tup, e1, e2]
    omega
section
variable {s s1 s2 : Sto} {p q : Nat}
def PartP (ns : List Str) (d : D) : Prop := ∃ pt : Part, d = pt.d ∧ pt.ok ns = true ∧ wd pt.d = true
theorem name_at {ns : List Str} {r : Nat} {s : Sto} (hr : s[r]? = some (.lst (ns.map .str))) {v : Int} (h0 : 0 ≤ v) (h1 : v < ns.length) : ∃ z, z ∈ ns ∧ idxOp (.ref r) (.int v) s = .ok (.str z) s := by
  obtain ⟨j, rfl⟩ : ∃ j : Nat, v = (j : Int) := ⟨v.toNat, by omega⟩
  have hj : j < ns.length := by omega
  refine ⟨ns[j], List.getElem_mem hj, ?_⟩
  rw [ix_ref hr, atI_nat (d := .str ns[j]) (by rw [List.getElem?_map, List.getElem?_eq_getElem hj]; rfl)]
  rfl
theorem part_gen (k : Nat) (h : Dr s p q) (ns : List Str) (hns : ns ≠ []) (r : Nat) (hr : s[r]? = some (.lst (ns.map .str))) (hrp : r ≠ p) : Wp (callF T (k + 4) .f_law_part [.ref p, .ref r] s) (DrawP s p q (PartP ns)) := by
  refine w_law_part ?_
  simp [-List.map_map]
  refine (next_ok _ h 3 (by decide)).imp ?_
  rintro d s1 ⟨⟨v, rfl, v0, v1⟩, e1, n1⟩
  have r1 := e1.get hr hrp
  by_cases h1 : v = 1
  · simp [-List.map_map, h1, len_ref r1]
    refine (next_ok _ e1.dr ns.length (by have := List.length_pos_iff.mpr hns; omega)).imp ?_
    rintro d s2 ⟨⟨w, rfl, w0, w1⟩, e2, n2⟩
    obtain ⟨z, hz, hi⟩ := name_at (e2.get r1 hrp) w0 w1
    simp [-List.map_map, hi]
    exact ⟨⟨.nam z, rfl, by simp [-List.map_map, Part.ok, hz], rfl⟩, e1.trans e2, by omega⟩
  · simp [-List.map_map, h1]
    refine (leaf_gen k e1.dr).imp ?_
    rintro d s2 ⟨⟨l, rfl, hl, hs⟩, e2, n2⟩
    try simp [-List.map_map]
    exact ⟨⟨.lf l, rfl, hl, l.wd_ hs⟩, e1.trans e2, by omega⟩
/-! bodies -/
def Fld.rn (f : Fld) : Bool := match f.mode, f.part with
  | .req, .nam _ => true
  | _, _ => false
def Body.good (lt : List Str) : Body → Prop
  | .lst p lo _ => lo ≤ 2 ∧ (match p with | .nam z => lo = 0 ∨ (z ∈ lt ∧ lo ≤ 1) | .lf _ => True)
  | .recd fs _ => fs.length ≤ 5 ∧ (∀ f ∈ fs, f.mode = .req → (match f.part with | .nam z => z ∈ lt | .lf _ => True)) ∧ (fs.filter Fld.rn).length ≤ 1
  | .uni cs _ o => o = true ∨ ∃ c ∈ cs, (match c.2 with | .nam z => z ∈ lt | .lf _ => True)
def BodyP (ns lt : List Str) (d : D) : Prop := ∃ b : Body, d = b.d ∧ b.ok ns = true ∧ b.good lt ∧ b.fit ∧ wd b.d = true
theorem list_gen (k : Nat) (h : Dr s p q) (ns lt : List Str) (hns : ns ≠ []) (r r2 : Nat) (hr : s[r]? = some (.lst (ns.map .str))) (hrp : r ≠ p) (hr2 : s[r2]? = some (.lst (lt.map .str))) (hrp2 : r2 ≠ p) :
    Wp (callF T (k + 4) .f_law_list_body [.ref p, .ref r, .ref r2] s) (DrawP s p q (BodyP ns lt)) := by
  refine w_law_list_body ?_
  have fin : ∀ (pt : Part) (lo : Int) (s1 : Sto), Ext s s1 p q → s1.length = s.length → pt.ok ns = true → wd pt.d = true → 0 ≤ lo → lo ≤ 2 → (match pt with | .nam z => lo = 0 ∨ (z ∈ lt ∧ lo ≤ 1) | .lf _ => True) → ∀ (C : F → List D → Sto → R D) x y z, C = callF T (k + 3) →
      Wp (evSs C (.cons (.set 5 (.blt .max (.cons (.int 1) (.cons (.bin .add (.var 3) (.call .f_law_next (.cons (.var 0) (.cons (.int 4) .nil)))) .nil)))) (.cons (.iff (.cmp .eq (.call .f_law_next (.cons (.var 0) (.cons (.int 9) .nil))) (.int 1)) (.cons (.set 5 (.int 99)) .nil) .nil) (.cons (.ret (.tup (.cons (.str "list") (.cons (.var 4) (.cons (.var 3) (.cons (.var 5) .nil)))))) .nil))) [some (.ref p), x, y, some (.int lo), some pt.d, z] s1) fun fl s2 => Wp (gcFl .raw s fl s2) (DrawP s p q (BodyP ns lt)) := by
    intro pt lo s1 ex len hok hwd h0 h2 hg C x y z hC
    subst hC
    simp [-List.map_map]
    refine (next_ok _ ex.dr 4 (by decide)).imp ?_
    rintro d s2 ⟨⟨a, rfl, a0, a1⟩, e2, n2⟩
    simp [-List.map_map]
    refine (next_ok _ e2.dr 9 (by decide)).imp ?_
    rintro d s3 ⟨⟨b, rfl, b0, b1⟩, e3, n3⟩
    have bw : ∀ hi : Int, wd (Body.lst pt lo hi).d = true := fun hi => by simp [-List.map_map, wd_tup, hwd]
    by_cases hb : b = 1
    · simp [-List.map_map, hb]
      exact ⟨⟨.lst pt lo 99, rfl, by simp [-List.map_map, Body.ok, hok]; omega, ⟨h2, hg⟩, trivial, bw _⟩, (ex.trans e2).trans e3, by omega⟩
    · simp [-List.map_map, hb]
      refine ⟨⟨.lst pt lo _, rfl, ?_, ⟨h2, hg⟩, trivial, bw _⟩, (ex.trans e2).trans e3, by omega⟩
      simp [-List.map_map, Body.ok, hok]
      split <;> omega
  simp [-List.map_map]
  refine (next_ok _ h 2 (by decide)).imp ?_
  rintro d s1 ⟨⟨v, rfl, v0, v1⟩, e1, n1⟩
  have r1 := e1.get hr hrp
  by_cases h1 : v = 1
  · simp [-List.map_map, h1, len_ref r1]
    refine (next_ok _ e1.dr ns.length (by have := List.length_pos_iff.mpr hns; omega)).imp ?_
    rintro d s2 ⟨⟨w, rfl, w0, w1⟩, e2, n2⟩
    obtain ⟨z, hz, hi⟩ := name_at (e2.get r1 hrp) w0 w1
    have r2' := e2.get (e1.get hr2 hrp2) hrp2
    simp [-List.map_map, hi, c_in_rs r2']
    by_cases hzl : z ∈ lt
    · simp [-List.map_map, hzl]
      refine (next_ok _ e2.dr 2 (by decide)).imp ?_
      rintro d s3 ⟨⟨u, rfl, u0, u1⟩, e3, n3⟩
      have := fin (.nam z) u s3 ((e1.trans e2).trans e3) (by omega) (by simp [-List.map_map, Part.ok, hz]) rfl u0 (by omega) (.inr ⟨hzl, by omega⟩) _ (some (.ref r)) (some (.ref r2)) none rfl
      simpa [-List.map_map] using this
    · simp [-List.map_map, hzl]
      have := fin (.nam z) 0 s2 (e1.trans e2) (by omega) (by simp [-List.map_map, Part.ok, hz]) rfl (by omega) (by omega) (.inl rfl) _ (some (.ref r)) (some (.ref r2)) none rfl
      simpa [-List.map_map] using this
  · simp [-List.map_map, h1]
    refine (leaf_gen k e1.dr).imp ?_
    rintro d s2 ⟨⟨l, rfl, hl, hs⟩, e2, n2⟩
    try simp [-List.map_map]
    refine (next_ok _ e2.dr 3 (by decide)).imp ?_
    rintro d s3 ⟨⟨u, rfl, u0, u1⟩, e3, n3⟩
    have := fin (.lf l) u s3 ((e1.trans e2).trans e3) (by omega) hl (l.wd_ hs) u0 (by omega) trivial _ (some (.ref r)) (some (.ref r2)) none rfl
    simpa [-List.map_map] using this
def recI (s3 : Sto) (p q r r2 sp : Nat) (ns lt : List Str) (a : List Int) (l : List Int) (env : Env) (s' : Sto) : Prop :=
  ∃ (fs : List Fld) (free : Bool) (x y z : Option D), a = fs.map (·.id) ++ l ∧ (∀ f ∈ fs, f.ok ns = true ∧ f.dv.fit ∧ wd f.d = true) ∧ (∀ f ∈ fs, f.mode = .req → (match f.part with | .nam z => z ∈ lt | .lf _ => True)) ∧ (free = true → (fs.filter Fld.rn).length = 0) ∧ (fs.filter Fld.rn).length ≤ 1 ∧
    Ext s3 s' p q ∧ s'.length = s3.length + 1 ∧ s'[s3.length]? = some (.lst (fs.map Fld.d)) ∧ env = [some (.ref p), some (.ref r), some (.ref r2), some (.ref sp), some (.ref s3.length), some (.bl free), x, y, z]
theorem rec_gen (k : Nat) (h : Dr s p q) (ns lt : List Str) (hns : ns ≠ []) (r r2 : Nat) (hr : s[r]? = some (.lst (ns.map .str))) (hrp : r ≠ p) (hr2 : s[r2]? = some (.lst (lt.map .str))) (hrp2 : r2 ≠ p) :
    Wp (callF T (k + 5) .f_law_record_body [.ref p, .ref r, .ref r2] s) (DrawP s p q (BodyP ns lt)) := by
  refine w_law_record_body ?_
  simp [-List.map_map]
  refine (lawids_ok _ h).imp ?_
  rintro d s1 ⟨ids, rfl, e1, n1, g1, hasc, hids⟩
  have hlp := h.lt
  try simp [-List.map_map]
  refine (split_ok _ e1.dr s.length ids g1 (by omega) hasc (by omega)).imp ?_
  rintro d s3 ⟨a, b, rfl, e3, n3, g3, g4, g5, ha, hb, hab, la, lb⟩
  have ex3 := e1.trans e3
  have gg5 : (s3 ++ [O.lst []])[s1.length + 2]? = some (.lst [.ref s1.length, .ref (s1.length + 1)]) := by rw [List.getElem?_append_left (by omega)]; exact g5
  have gg3 : (s3 ++ [O.lst []])[s1.length]? = some (.lst (a.map .int)) := by rw [List.getElem?_append_left (by omega)]; exact g3
  have i0 : idxOp (.ref (s1.length + 2)) (.int 0) (s3 ++ [O.lst []]) = .ok (.ref s1.length) (s3 ++ [O.lst []]) := by rw [ix_ref gg5]; simp [-List.map_map]
  simp [-List.map_map, i0, items_r gg3]
  have hlp3 := ex3.dr.lt
  refine for_inv D.int (recI s3 p q r r2 (s1.length + 2) ns lt a) (fun y l env s' hI => ?_) (fun env s' hI => ?_) a _ _ ⟨[], true, none, none, none, rfl, (fun _ h => by cases h), (fun _ h => by cases h), (fun _ => rfl), by simp [-List.map_map], Ext.app ex3.dr _, by simp [-List.map_map], by simp [-List.map_map], rfl⟩
  · obtain ⟨fs, free, x, y', z, e, hok, hreq, hfree, hcnt, ex, len, g, rfl⟩ := hI
    have hrl := (List.getElem?_eq_some_iff.mp hr).1
    refine ⟨watch_some (ex.get g3 (by omega)), _, bT1, ?_⟩
    simp [-List.map_map]
    refine (part_gen _ ex.dr ns hns r (ex.get (ex3.get hr hrp) hrp) hrp).imp ?_
    rintro d s4 ⟨⟨pt, rfl, hpt, hwd⟩, e4, n4⟩
    try simp [-List.map_map]
    refine (next_ok _ e4.dr 4 (by decide)).imp ?_
    rintro d s5 ⟨⟨v, rfl, v0, v1⟩, e5, n5⟩
    have ex5 := (ex.trans e4).trans e5
    have g5' := e5.get (e4.get g (by omega)) (by omega)
    have hfl : fs.length ≤ 1000 := by
      have : (fs.map (·.id)).length ≤ a.length := by rw [e]; simp [-List.map_map]
      simp [-List.map_map] at this
      omega
    have nx : ∀ (f : Fld) (free' : Bool) (s6 : Sto) (x y' z : Option D), f.ok ns = true → f.dv.fit → wd f.d = true → (f.mode = .req → (match f.part with | .nam z => z ∈ lt | .lf _ => True)) → (f.rn = true → free = true ∧ free' = false) → (f.rn = false → free' = free) →
        f.id = y → Ext s3 s6 p q → s6.length = s3.length + 1 →
        recI s3 p q r r2 (s1.length + 2) ns lt a l [some (.ref p), some (.ref r), some (.ref r2), some (.ref (s1.length + 2)), some (.ref s3.length), some (.bl free'), x, y', z] (s6.set s3.length (.lst (fs.map Fld.d ++ [f.d]))) := by
      intro f free' s6 x y' z h1 h2 h3 h4 h5 h6 h7 h8 h9
      refine ⟨fs ++ [f], free', _, _, _, by rw [e, ← h7]; simp [-List.map_map], fun g hg => ?_, fun g hg => ?_, fun hf => ?_, ?_, h8.wr ex3.dr _ (Nat.le_refl _), by simp [-List.map_map]; omega, by rw [List.getElem?_set_self (by omega)]; simp [-List.map_map], rfl⟩
      · rcases List.mem_append.mp hg with hg | hg
        · exact hok g hg
        · rw [List.mem_singleton.mp hg]; exact ⟨h1, h2, h3⟩
      · rcases List.mem_append.mp hg with hg | hg
        · exact hreq g hg
        · rw [List.mem_singleton.mp hg]; exact h4
      · rw [List.filter_append, List.length_append]
        cases hr : f.rn with
        | true => rw [(h5 hr).2] at hf; cases hf
        | false =>
          rw [h6 hr] at hf
          rw [hfree hf]
          simp [-List.map_map, hr]
      · rw [List.filter_append, List.length_append]
        cases hr : f.rn with
        | true =>
          rw [hfree (h5 hr).1]
          simp [-List.map_map, hr]
        | false => simp [-List.map_map, hr]; exact hcnt
    have fll : fs.length < 16777216 := by omega
    cases pt with
    | nam z =>
      have r2' := e5.get (e4.get (ex.get (ex3.get hr2 hrp2) hrp2) hrp2) hrp2
      have hz : ns.contains z = true := hpt
      simp [-List.map_map, c_in_rs r2', recv_app g5', app_r g5', fll]
      have optn := nx ⟨y, .nam z, .opt, .non⟩ free s5 (some (.int y)) (some (.str z)) (some (.int v)) (by simp only [Fld.ok, Part.ok, hz]; rfl) trivial (by simp [-List.map_map, Fld.d, wd_tup]) (by intro h; cases h) (by intro h; cases h) (fun _ => rfl) rfl ex5 (by omega)
      simp [-List.map_map, Fld.d] at optn
      by_cases hv : v = 1
      · simp [-List.map_map, hv] at optn ⊢
        exact optn
      · cases free with
        | false =>
          simp [-List.map_map, hv]
          exact optn
        | true =>
          by_cases hzl : z ∈ lt
          · have reqn := nx ⟨y, .nam z, .req, .non⟩ false s5 (some (.int y)) (some (.str z)) (some (.int v)) (by simp only [Fld.ok, Part.ok, hz]; rfl) trivial (by simp [-List.map_map, Fld.d, wd_tup]) (fun _ => hzl) (fun _ => ⟨rfl, rfl⟩) (by intro h; cases h) rfl ex5 (by omega)
            simp [-List.map_map, Fld.d] at reqn
            simp [-List.map_map, hv, hzl]
            exact reqn
          · simp [-List.map_map, hv, hzl]
            exact optn
    | lf lf0 =>
      have hl : lf0.ok = true := hpt
      have hwl : wd lf0.d = true := hwd
      have hty : isTy .str lf0.d = some false := by cases lf0 <;> rfl
      simp [-List.map_map, hty, recv_app g5', app_r g5', fll]
      have optn := nx ⟨y, .lf lf0, .opt, .non⟩ free s5 (some (.int y)) (some lf0.d) (some (.int v)) (by simp only [Fld.ok, Part.ok, hl]; rfl) trivial (by simp [-List.map_map, Fld.d, wd_tup, hwl]) (by intro h; cases h) (by intro h; cases h) (fun _ => rfl) rfl ex5 (by omega)
      simp [-List.map_map, Fld.d] at optn
      have reqn := nx ⟨y, .lf lf0, .req, .non⟩ free s5 (some (.int y)) (some lf0.d) (some (.int v)) (by simp only [Fld.ok, Part.ok, hl]; rfl) trivial (by simp [-List.map_map, Fld.d, wd_tup, hwl]) (fun _ => trivial) (by intro h; cases h) (fun _ => rfl) rfl ex5 (by omega)
      simp [-List.map_map, Fld.d] at reqn
      by_cases hv : v = 1
      · simp [-List.map_map, hv] at optn ⊢
        exact optn
      · by_cases hv2 : v = 2
        · have hix : ∃ kd : Str, idxOp lf0.d (.int 0) s5 = .ok (.str kd) s5 ∧ (decide (kd = Str.ofString "choice") = lf0.cho?) := by
            cases lf0 with
            | num a b => exact ⟨"number", by simp [-List.map_map], by simp [-List.map_map, Leaf.cho?]⟩
            | txt a b => exact ⟨"text", by simp [-List.map_map], by simp [-List.map_map, Leaf.cho?]⟩
            | cho a b o => exact ⟨"choice", by simp [-List.map_map], by simp [-List.map_map, Leaf.cho?]⟩
          obtain ⟨kd, hix, hkd⟩ := hix
          simp [-List.map_map, hv, hv2, hix]
          rw [hv2] at reqn
          by_cases hch : kd = Str.ofString "choice"
          · simp [-List.map_map, hch, recv_app g5', app_r g5', fll]
            exact reqn
          · simp [-List.map_map, hch, recv_app g5']
            have hcho : lf0.cho? = false := by rw [← hkd]; simp [-List.map_map, hch]
            refine (val_gen (k + 1) ex5.dr lf0 hl hcho).imp ?_
            rintro d s6 ⟨⟨dv, rfl, hdv, hfit⟩, e6, n6⟩
            have g6 := e6.get g5' (by omega)
            have hdw : wd dv.d = true := by cases dv <;> rfl
            have dfn' := nx ⟨y, .lf lf0, .dfl, dv⟩ free s6 (some (.int y)) (some lf0.d) (some (.int 2)) (by simp only [Fld.ok, Part.ok, hl, hcho, hdv]; rfl) hfit (by simp [-List.map_map, Fld.d, wd_tup, hwl, hdw]) (by intro h; cases h) (by intro h; cases h) (fun _ => rfl) rfl (ex5.trans e6) (by omega)
            simp [-List.map_map, Fld.d] at dfn'
            simp [-List.map_map, app_r g6, fll]
            exact dfn'
        · simp [-List.map_map, hv, hv2]
          exact reqn
  · obtain ⟨fs, free, x, y', z, e, hok, hreq, hfree, hcnt, ex, len, g, rfl⟩ := hI
    rw [List.append_nil] at e
    refine ⟨watch_some (ex.get g3 (by omega)), ?_⟩
    have k5 := ex.get g5 (by omega)
    have k4 := ex.get g4 (by omega)
    have i1 : idxOp (.ref (s1.length + 2)) (.int 1) s' = .ok (.ref (s1.length + 1)) s' := by rw [ix_ref k5]; simp [-List.map_map]
    simp [-List.map_map, i1, tuple_r g, tuple_r k4]
    have hp := (Body.recd fs b).pu
    simp [-List.map_map] at hp
    refine gc_cut (ex3.trans ex) h (by simp [-List.map_map, hp]) fun s5 e5 l5 => ⟨⟨.recd fs b, by simp [-List.map_map], ?_, ⟨?_, hreq, hcnt⟩, ⟨?_, fun f hf => (hok f hf).2.1⟩, ?_⟩, e5, l5⟩
    · have h1 : (fs.all fun f => f.ok ns) = true := List.all_eq_true.mpr fun f hf => (hok f hf).1
      simp [-List.map_map, Body.ok, ← e, ha, hb, hab]
      simpa [-List.map_map] using h1
    · have : (fs.map (·.id)).length = a.length := by rw [e]
      simp [-List.map_map] at this
      omega
    · have : (fs.map (·.id)).length = a.length := by rw [e]
      simp [-List.map_map] at this
      omega
    · have h1 : wds (fs.map Fld.d) = true := wds_map fun f hf => (hok f hf).2.2
      have h2 : wds (b.map D.int) = true := wds_map fun _ _ => by simp [-List.map_map]
      have : (fs.map (·.id)).length = a.length := by rw [e]
      simp [-List.map_map] at this
      simp [-List.map_map, wd_tup, h1, h2]
      omega
end
end SB.K61
end

section
set_option maxHeartbeats 1000000
namespace SB.K61
open PySem SB.Ev
section
variable {s s1 s2 : Sto} {p q : Nat}
def casI (s3 : Sto) (p q : Nat) (ns : List Str) (a : List Int) (l : List Int) (s' : Sto) (acc : List D) : Prop :=
  ∃ cs : List (Int × Part), a = cs.map (·.1) ++ l ∧ acc = cs.map cas ∧ (∀ c ∈ cs, c.2.ok ns = true ∧ wd (cas c) = true) ∧ Ext s3 s' p q ∧ s'.length = s3.length
def safe (lt : List Str) (c : Int × Part) : Bool := match c.2 with
  | .nam z => lt.contains z
  | .lf _ => true
theorem uni_gen (k : Nat) (h : Dr s p q) (ns lt : List Str) (hns : ns ≠ []) (r r2 : Nat) (hr : s[r]? = some (.lst (ns.map .str))) (hrp : r ≠ p) (hr2 : s[r2]? = some (.lst (lt.map .str))) (hrp2 : r2 ≠ p) :
    Wp (callF T (k + 5) .f_law_union_body [.ref p, .ref r, .ref r2] s) (DrawP s p q (BodyP ns lt)) := by
  refine w_law_union_body ?_
  simp [-List.map_map, -List.map_take, -List.map_drop]
  refine (lawids_ok _ h).imp ?_
  rintro d s1 ⟨ids, rfl, e1, n1, g1, hasc, hids⟩
  have hlp := h.lt
  try simp [-List.map_map, -List.map_take, -List.map_drop]
  refine (split_ok _ e1.dr s.length ids g1 (by omega) hasc (by omega)).imp ?_
  rintro d s3 ⟨a, b, rfl, e3, n3, g3, g4, g5, ha, hb, hab, la, lb⟩
  have ex3 := e1.trans e3
  have hlp3 := ex3.dr.lt
  have i0 : idxOp (.ref (s1.length + 2)) (.int 0) s3 = .ok (.ref s1.length) s3 := by rw [ix_ref g5]; simp [-List.map_map, -List.map_take, -List.map_drop]
  simp [-List.map_map, -List.map_take, -List.map_drop, i0, items_r g3]
  refine lc_inv D.int (casI s3 p q ns a) (fun y l s' acc hI => ?_) (fun s' acc hI => ?_) a _ _ ⟨[], rfl, rfl, (fun _ h => by cases h), Ext.refl ex3.dr, rfl⟩
  · obtain ⟨cs, e, rfl, hok, ex, len⟩ := hI
    refine ⟨watch_some (ex.get g3 (by omega)), _, bT1, ?_⟩
    simp [-List.map_map, -List.map_take, -List.map_drop]
    refine (part_gen _ ex.dr ns hns r (ex.get (ex3.get hr hrp) hrp) hrp).imp ?_
    rintro d s4 ⟨⟨pt, rfl, hpt, hwd⟩, e4, n4⟩
    try simp [-List.map_map, -List.map_take, -List.map_drop]
    refine ⟨cs ++ [(y, pt)], by rw [e]; simp [-List.map_map, -List.map_take, -List.map_drop], by simp [-List.map_map, -List.map_take, -List.map_drop, cas], fun c hc => ?_, ex.trans e4, by omega⟩
    rcases List.mem_append.mp hc with hc | hc
    · exact hok c hc
    · rw [List.mem_singleton.mp hc]
      exact ⟨hpt, by simp [-List.map_map, -List.map_take, -List.map_drop, cas, wd_tup, hwd]⟩
  · obtain ⟨cs, e, rfl, hok, ex, len⟩ := hI
    rw [List.append_nil] at e
    refine ⟨watch_some (ex.get g3 (by omega)), ?_⟩
    have hcl : cs.length ≤ 5 := by
      have : (cs.map (·.1)).length = a.length := by rw [e]
      simp [-List.map_map, -List.map_take, -List.map_drop] at this
      omega
    have hcl' : cs.length ≤ 16777216 := by omega
    have gc0 : (s' ++ [O.lst (cs.map cas)])[s'.length]? = some (.lst (cs.map cas)) := by simp [-List.map_map, -List.map_take, -List.map_drop]
    have r2' : (s' ++ [O.lst (cs.map cas)])[r2]? = some (.lst (lt.map .str)) := by
      have := ex.get (ex3.get hr2 hrp2) hrp2
      rw [List.getElem?_append_left (List.getElem?_eq_some_iff.mp this).1]
      exact this
    simp [-List.map_map, -List.map_take, -List.map_drop, hcl', items_r gc0]
    rw [lc_pure cs cas (safe lt) cas (watch_some gc0) (fun c hc => by
      refine ⟨_, bT1, ?_, fun _ => by simp [-List.map_map, -List.map_take, -List.map_drop]⟩
      have i1 : idxOp (cas c) (.int 1) (s' ++ [O.lst (cs.map cas)]) = .ok c.2.d (s' ++ [O.lst (cs.map cas)]) := by simp [-List.map_map, -List.map_take, -List.map_drop, cas]
      obtain ⟨ci, cp⟩ := c
      cases cp with
      | nam z => simp [-List.map_map, -List.map_take, -List.map_drop, i1, c_in_rs r2', safe]
      | lf l0 =>
        have hty : isTy .str l0.d = some false := by cases l0 <;> rfl
        simp [-List.map_map, -List.map_take, -List.map_drop, i1, hty, safe])]
    have hfl : (cs.filter (safe lt)).length ≤ cs.length := List.length_filter_le _ _
    have hfl' : (cs.filter (safe lt)).length ≤ 16777216 := by omega
    have exA : Ext s (s' ++ [O.lst (cs.map cas)] ++ [O.lst ((cs.filter (safe lt)).map cas)]) p q := by
      refine ⟨by have := (ex3.trans ex).len; simp [-List.map_map, -List.map_take, -List.map_drop]; omega, fun i hi nn => ?_, ((ex.dr.app _).app _)⟩
      have := (ex3.trans ex).len
      rw [List.append_assoc, List.getElem?_append_left (by omega)]
      exact (ex3.trans ex).old i hi nn
    have exB : Ext s3 (s' ++ [O.lst (cs.map cas)] ++ [O.lst ((cs.filter (safe lt)).map cas)]) p q := by
      refine ⟨by have := ex.len; simp [-List.map_map, -List.map_take, -List.map_drop]; omega, fun i hi nn => ?_, ((ex.dr.app _).app _)⟩
      have := ex.len
      rw [List.append_assoc, List.getElem?_append_left (by omega)]
      exact ex.old i hi nn
    have gA : (s' ++ [O.lst (cs.map cas)] ++ [O.lst ((cs.filter (safe lt)).map cas)])[s'.length]? = some (.lst (cs.map cas)) := by simp [-List.map_map, -List.map_take, -List.map_drop]
    have gB : (s' ++ [O.lst (cs.map cas)] ++ [O.lst ((cs.filter (safe lt)).map cas)])[s'.length + 1]? = some (.lst ((cs.filter (safe lt)).map cas)) := by simp [-List.map_map, -List.map_take, -List.map_drop]
    simp [-List.map_map, -List.map_take, -List.map_drop, hfl']
    have hap : s' ++ [O.lst (cs.map cas), O.lst ((cs.filter (safe lt)).map cas)] = s' ++ [O.lst (cs.map cas)] ++ [O.lst ((cs.filter (safe lt)).map cas)] := by simp [-List.map_map, -List.map_take, -List.map_drop]
    rw [hap]
    refine (next_ok _ exA.dr 2 (by decide)).imp ?_
    rintro d s4 ⟨⟨v, rfl, v0, v1⟩, e4, n4⟩
    have hsl : s3.length = s'.length := len.symm
    have k5 := e4.get (exB.get g5 (by omega)) (by omega)
    have k4 := e4.get (exB.get g4 (by omega)) (by omega)
    have kA := e4.get gA (by omega)
    have kB := e4.get gB (by omega)
    have i1 : idxOp (.ref (s1.length + 2)) (.int 1) s4 = .ok (.ref (s1.length + 1)) s4 := by rw [ix_ref k5]; simp [-List.map_map, -List.map_take, -List.map_drop]
    have hp : ∀ o, (Body.uni cs b o).d.pure = true := fun o => (Body.uni cs b o).pu
    simp [-List.map_map, -List.map_take, -List.map_drop] at hp
    have fin : ∀ o : Bool, (o = false → b = [] ∧ (cs.filter (safe lt)) ≠ []) → Wp (gcR .«mut» s (.tup [.str "union", .tup (cs.map cas), .tup (b.map .int), .bl o]) s4) (DrawP s p q (BodyP ns lt)) := by
      intro o ho
      refine gc_cut (exA.trans e4) h (by simp [-List.map_map, -List.map_take, -List.map_drop, hp]) fun s5 e5 l5 => ⟨⟨.uni cs b o, by simp [-List.map_map, -List.map_take, -List.map_drop], ?_, ?_, ?_, ?_⟩, e5, l5⟩
      · have h1 : (cs.all fun c => c.2.ok ns) = true := List.all_eq_true.mpr fun f hf => (hok f hf).1
        have h2 : idsOk (cs.map (·.1)) b o = true := by
          rw [← e]
          simp only [idsOk, ha, hb, hab]
          cases o with
          | true => rfl
          | false =>
            obtain ⟨h3, h4⟩ := ho rfl
            subst h3
            cases a with
            | cons x a => rfl
            | nil =>
              have : cs = [] := by
                cases cs with
                | nil => rfl
                | cons _ _ => cases e
              subst this
              exact absurd rfl h4
        show ((cs.all fun c => c.2.ok ns) && idsOk (cs.map (·.1)) b o) = true
        rw [h1, h2]
        rfl
      · cases o with
        | true => exact .inl rfl
        | false =>
          obtain ⟨h3, h4⟩ := ho rfl
          cases hf : cs.filter (safe lt) with
          | nil => exact absurd hf h4
          | cons c r =>
            have hc : c ∈ cs.filter (safe lt) := by rw [hf]; exact List.mem_cons_self ..
            obtain ⟨hc1, hc2⟩ := List.mem_filter.mp hc
            refine .inr ⟨c, hc1, ?_⟩
            obtain ⟨ci, cp⟩ := c
            cases cp with
            | nam z => simpa [-List.map_map, -List.map_take, -List.map_drop, safe] using hc2
            | lf _ => trivial
      · show cs.length ≤ 1000
        omega
      · have h1 : wds (cs.map cas) = true := wds_map fun c hc => (hok c hc).2
        have h2 : wds (b.map D.int) = true := wds_map fun _ _ => by simp [-List.map_map, -List.map_take, -List.map_drop]
        simp [-List.map_map, -List.map_take, -List.map_drop, wd_tup, h1, h2]
        omega
    have hl2 : (s'.length + 1) = s'.length + 1 := rfl
    by_cases hv : v = 1
    · simp [-List.map_map, -List.map_take, -List.map_drop, hv, i1, tuple_r kA, tuple_r k4]
      exact fin true (by intro h; cases h)
    · simp [-List.map_map, -List.map_take, -List.map_drop, hv, i1, tuple_r kA, tuple_r k4, len_ref k4, len_ref kB]
      cases b with
      | cons y b => simpa [-List.map_map, -List.map_take, -List.map_drop] using fin true (by intro h; cases h)
      | nil =>
        cases hf : cs.filter (safe lt) with
        | nil => simpa [-List.map_map, -List.map_take, -List.map_drop] using fin true (by intro h; cases h)
        | cons c r =>
          have h0 : ¬ ((r.length : Int) + 1 = 0) := by omega
          simpa [-List.map_map, -List.map_take, -List.map_drop, h0] using fin false (by intro _; exact ⟨rfl, by rw [hf]; simp [-List.map_map, -List.map_take, -List.map_drop]⟩)
/-! the schema -/
theorem cut_take {α : Type} (l : List α) (k : Nat) : cutL l none (some (k : Int)) = l.take k := by
  have h : ¬ ((k : Int) < 0) := by omega
  simp only [cutL, sIx, h, if_false]
  simp [-List.map_map, -List.map_take, -List.map_drop]
theorem cut_drop {α : Type} (l : List α) (k : Nat) : cutL l (some (k : Int)) none = l.drop k := by
  have h : ¬ ((k : Int) < 0) := by omega
  simp only [cutL, sIx, h, if_false]
  simp [-List.map_map, -List.map_take, -List.map_drop]
  rcases Nat.lt_or_ge k l.length with q | q
  · rw [Nat.min_eq_left (by omega)]
    exact List.take_of_length_le (by simp [-List.map_map, -List.map_take, -List.map_drop])
  · rw [Nat.min_eq_right q, List.drop_eq_nil_of_le q, List.drop_length]
    simp [-List.map_map, -List.map_take, -List.map_drop]
theorem slc_r {n : Nat} {l : List D} {lo hi : Option Int} {s : Sto} (h : s[n]? = some (.lst l)) : slcOp (.ref n) lo hi s = .ok (.ref s.length) (s ++ [.lst (cutL l lo hi)]) := by
  simp [-List.map_map, -List.map_take, -List.map_drop, slcOp, lstAt, h]
def nm4 : List Str := ["a", "ab", "b", "ba"]
/-- a schema as the law draws it -/
structure Gen (c : Sch) : Prop where
  ns : ∃ n, 1 ≤ n ∧ n ≤ 4 ∧ c.ns = nm4.take n
  root : c.root ∈ c.ns
  body : ∀ (i : Nat) (p : Str × Body), c.defs[i]? = some p → p.2.ok c.ns = true ∧ p.2.good (c.ns.drop (i + 1)) ∧ p.2.fit ∧ wd p.2.d = true
def schI (s1 : Sto) (p q : Nat) (n : Nat) (l : List Int) (env : Env) (s' : Sto) : Prop :=
  ∃ (defs : List (Str × Body)) (x y z w : Option D), defs.length ≤ n ∧ l = rg (defs.length : Int) (n - defs.length) ∧ defs.map (·.1) = (nm4.take n).take defs.length ∧
    (∀ (i : Nat) (p : Str × Body), defs[i]? = some p → p.2.ok (nm4.take n) = true ∧ p.2.good ((nm4.take n).drop (i + 1)) ∧ p.2.fit ∧ wd p.2.d = true) ∧
    Ext s1 s' p q ∧ s'[s1.length + 1]? = some (.lst ((nm4.take n).map .str)) ∧ s'[s1.length + 2]? = some (.lst (defs.map dfn)) ∧
    env = [some (.ref p), some (.int n), some (.ref (s1.length + 1)), some (.ref (s1.length + 2)), x, y, z, w]
theorem sch_gen (k : Nat) (h : Dr s p q) : Wp (callF T (k + 6) .f_law_schema [.ref p] s) (DrawP s p q fun d => ∃ c : Sch, d = c.d ∧ Gen c) := by
  refine w_law_schema ?_
  simp [-List.map_map, -List.map_take, -List.map_drop]
  refine (next_ok _ h 4 (by decide)).imp ?_
  rintro d s1 ⟨⟨v, rfl, v0, v4⟩, e1, n1⟩
  obtain ⟨n, hn⟩ : ∃ n : Nat, 1 + v = (n : Int) := ⟨(1 + v).toNat, by omega⟩
  have hn1 : 1 ≤ n := by omega
  have hn4 : n ≤ 4 := by omega
  simp [-List.map_map, -List.map_take, -List.map_drop, hn]
  have gl : (s1 ++ [O.lst [D.str (Str.ofString "a"), D.str (Str.ofString "ab"), D.str (Str.ofString "b"), D.str (Str.ofString "ba")]])[s1.length]? = some (.lst (nm4.map .str)) := by simp [-List.map_map, -List.map_take, -List.map_drop, nm4]
  rw [slc_r gl, cut_take, ← List.map_take]
  have m0 : midI 0 = true := by decide
  have mn : midI (n : Int) = true := by simp [-List.map_map, -List.map_take, -List.map_drop, midI]; omega
  simp [-List.map_map, -List.map_take, -List.map_drop, m0, mn]
  have hrg : rangeD 0 n = (rg 0 n).map D.int := rangeD_rg n 0
  rw [hrg]
  have hlp := e1.dr.lt
  have len4 : (nm4.take n).length = n := by simp [-List.map_map, -List.map_take, -List.map_drop, nm4]; omega
  refine for_inv D.int (schI s1 p q n) (fun y l env s' hI => ?_) (fun env s' hI => ?_) (rg 0 n) _ _ ⟨[], none, none, none, none, Nat.zero_le _, by simp [-List.map_map, -List.map_take, -List.map_drop], by simp [-List.map_map, -List.map_take, -List.map_drop], (by intro i p h; simp [-List.map_map, -List.map_take, -List.map_drop] at h), Ext.app e1.dr _, by simp [-List.map_map, -List.map_take, -List.map_drop], by simp [-List.map_map, -List.map_take, -List.map_drop], rfl⟩
  · obtain ⟨defs, x, y', z, w, hd, hl, hnm, hbd, ex, gN, gD, rfl⟩ := hI
    obtain ⟨hlt, rfl, rfl⟩ : defs.length < n ∧ y = (defs.length : Int) ∧ l = rg ((defs.length : Int) + 1) (n - (defs.length + 1)) := by
      rcases Nat.lt_or_ge defs.length n with q | q
      · obtain ⟨j, hj⟩ : ∃ j, n - defs.length = j + 1 := ⟨n - defs.length - 1, by omega⟩
        rw [hj, rg] at hl
        exact ⟨q, (List.cons.inj hl).1, by rw [(List.cons.inj hl).2, show n - (defs.length + 1) = j from by omega]⟩
      · rw [show n - defs.length = 0 from by omega, rg] at hl
        cases hl
    refine ⟨rfl, _, bT1, ?_⟩
    simp [-List.map_map, -List.map_take, -List.map_drop]
    refine (next_ok _ ex.dr 6 (by decide)).imp ?_
    rintro d s3 ⟨⟨kd, rfl, kd0, kd1⟩, e3, n3⟩
    have kN := e3.get gN (by omega)
    have kD := e3.get gD (by omega)
    have hcd : cutL ((nm4.take n).map D.str) (some ((defs.length : Int) + 1)) none = ((nm4.take n).drop (defs.length + 1)).map D.str := by
      have := cut_drop ((nm4.take n).map D.str) (defs.length + 1)
      rw [← List.map_drop] at this
      exact this
    simp [-List.map_map, -List.map_take, -List.map_drop]
    rw [slc_r kN, hcd]
    have ex3 := ex.trans e3
    have N3 := (List.getElem?_eq_some_iff.mp kN).1
    have D3 := (List.getElem?_eq_some_iff.mp kD).1
    have dr4 := ex3.dr.app [O.lst (((nm4.take n).drop (defs.length + 1)).map D.str)]
    have jN : (s3 ++ [O.lst (((nm4.take n).drop (defs.length + 1)).map D.str)])[s1.length + 1]? = some (.lst ((nm4.take n).map .str)) := by rw [List.getElem?_append_left N3]; exact kN
    have jD : (s3 ++ [O.lst (((nm4.take n).drop (defs.length + 1)).map D.str)])[s1.length + 2]? = some (.lst (defs.map dfn)) := by rw [List.getElem?_append_left D3]; exact kD
    have jL : (s3 ++ [O.lst (((nm4.take n).drop (defs.length + 1)).map D.str)])[s3.length]? = some (.lst (((nm4.take n).drop (defs.length + 1)).map D.str)) := by simp [-List.map_map, -List.map_take, -List.map_drop]
    have ex4 : Ext s1 (s3 ++ [O.lst (((nm4.take n).drop (defs.length + 1)).map D.str)]) p q := by
      refine ⟨by have := ex3.len; simp [-List.map_map, -List.map_take, -List.map_drop]; omega, fun i hi nn => ?_, dr4⟩
      have := ex3.len
      rw [List.getElem?_append_left (by omega)]
      exact ex3.old i hi nn
    have nne : nm4.take n ≠ [] := by
      intro h0
      rw [h0] at len4
      simp [-List.map_map, -List.map_take, -List.map_drop] at len4
      omega
    have hz : ((nm4.take n).map D.str)[defs.length]? = some (.str (nm4.take n)[defs.length]) := by
      rw [List.getElem?_map, List.getElem?_eq_getElem (by omega)]
      rfl
    have dfl : defs.length < 16777216 := by omega
    have nx : ∀ (b : Body) (s6 : Sto) (x y z : Option D), b.ok (nm4.take n) = true → b.good ((nm4.take n).drop (defs.length + 1)) → b.fit → wd b.d = true → Ext s1 s6 p q → s6[s1.length + 1]? = some (.lst ((nm4.take n).map .str)) → s6[s1.length + 2]? = some (.lst (defs.map dfn)) →
        schI s1 p q n (rg ((defs.length : Int) + 1) (n - (defs.length + 1))) [some (.ref p), some (.int n), some (.ref (s1.length + 1)), some (.ref (s1.length + 2)), some (.int defs.length), x, y, z] (s6.set (s1.length + 2) (.lst (defs.map dfn ++ [dfn ((nm4.take n)[defs.length], b)]))) := by
      intro b s6 x y z h1 h2 h3 h4 h5 h6 h7
      have l7 := (List.getElem?_eq_some_iff.mp h7).1
      refine ⟨defs ++ [((nm4.take n)[defs.length], b)], _, _, _, _, by simp [-List.map_map, -List.map_take, -List.map_drop]; omega, by simp [-List.map_map, -List.map_take, -List.map_drop], ?_, ?_, h5.wr e1.dr _ (by omega), ?_, ?_, rfl⟩
      · rw [List.map_append, hnm]
        simp only [List.map_cons, List.map_nil, List.length_append, List.length_singleton]
        rw [List.take_succ_eq_append_getElem (by omega)]
      · intro i p hp
        by_cases hi : i < defs.length
        · rw [List.getElem?_append_left hi] at hp
          exact hbd i p hp
        · have hi2 : i = defs.length := by
            have := (List.getElem?_eq_some_iff.mp hp).1
            simp [-List.map_map, -List.map_take, -List.map_drop] at this
            omega
          subst hi2
          simp [-List.map_map, -List.map_take, -List.map_drop] at hp
          subst hp
          exact ⟨h1, h2, h3, h4⟩
      · rw [List.getElem?_set_ne (by omega)]; exact h6
      · rw [List.getElem?_set_self l7]; simp [-List.map_map, -List.map_take, -List.map_drop]
    by_cases h3 : kd < 3
    · simp [-List.map_map, -List.map_take, -List.map_drop, h3]
      refine (rec_gen k dr4 (nm4.take n) _ nne (s1.length + 1) s3.length jN (by omega) jL (by omega)).imp ?_
      rintro d s6 ⟨⟨b, rfl, b1, b2, b3, b4⟩, e6, n6⟩
      have qN := e6.get jN (by omega)
      have qD := e6.get jD (by omega)
      have qi : idxOp (.ref (s1.length + 1)) (.int (defs.length : Int)) s6 = .ok (.str (nm4.take n)[defs.length]) s6 := by rw [ix_ref qN, atI_nat hz]; rfl
      have fin := nx b s6 (some (.int kd)) (some (.ref s3.length)) (some b.d) b1 b2 b3 b4 (ex4.trans e6) qN qD
      simp [-List.map_map, -List.map_take, -List.map_drop, recv_app qD, qi, app_r qD, dfl]
      simpa [-List.map_map, -List.map_take, -List.map_drop, dfn] using fin
    · by_cases h5 : kd < 5
      · simp [-List.map_map, -List.map_take, -List.map_drop, h3, h5]
        refine (uni_gen k dr4 (nm4.take n) _ nne (s1.length + 1) s3.length jN (by omega) jL (by omega)).imp ?_
        rintro d s6 ⟨⟨b, rfl, b1, b2, b3, b4⟩, e6, n6⟩
        have qN := e6.get jN (by omega)
        have qD := e6.get jD (by omega)
        have qi : idxOp (.ref (s1.length + 1)) (.int (defs.length : Int)) s6 = .ok (.str (nm4.take n)[defs.length]) s6 := by rw [ix_ref qN, atI_nat hz]; rfl
        have fin := nx b s6 (some (.int kd)) (some (.ref s3.length)) (some b.d) b1 b2 b3 b4 (ex4.trans e6) qN qD
        simp [-List.map_map, -List.map_take, -List.map_drop, recv_app qD, qi, app_r qD, dfl]
        simpa [-List.map_map, -List.map_take, -List.map_drop, dfn] using fin
      · simp [-List.map_map, -List.map_take, -List.map_drop, h3, h5]
        refine (list_gen (k + 1) dr4 (nm4.take n) _ nne (s1.length + 1) s3.length jN (by omega) jL (by omega)).imp ?_
        rintro d s6 ⟨⟨b, rfl, b1, b2, b3, b4⟩, e6, n6⟩
        have qN := e6.get jN (by omega)
        have qD := e6.get jD (by omega)
        have qi : idxOp (.ref (s1.length + 1)) (.int (defs.length : Int)) s6 = .ok (.str (nm4.take n)[defs.length]) s6 := by rw [ix_ref qN, atI_nat hz]; rfl
        have fin := nx b s6 (some (.int kd)) (some (.ref s3.length)) (some b.d) b1 b2 b3 b4 (ex4.trans e6) qN qD
        simp [-List.map_map, -List.map_take, -List.map_drop, recv_app qD, qi, app_r qD, dfl]
        simpa [-List.map_map, -List.map_take, -List.map_drop, dfn] using fin
  · obtain ⟨defs, x, y', z, w, hd, hl, hnm, hbd, ex, gN, gD, rfl⟩ := hI
    have hln : defs.length = n := by
      rcases Nat.lt_or_ge defs.length n with q | q
      · obtain ⟨j, hj⟩ : ∃ j, n - defs.length = j + 1 := ⟨n - defs.length - 1, by omega⟩
        rw [hj, rg] at hl
        cases hl
      · omega
    refine ⟨rfl, ?_⟩
    simp [-List.map_map, -List.map_take, -List.map_drop]
    refine (next_ok _ ex.dr n (by omega)).imp ?_
    rintro d s3 ⟨⟨u, rfl, u0, u1⟩, e3, n3⟩
    have kN := e3.get gN (by omega)
    have kD := e3.get gD (by omega)
    obtain ⟨zr, hzr, hi⟩ := name_at kN u0 (by rw [len4]; exact u1)
    simp [-List.map_map, -List.map_take, -List.map_drop, hi, tuple_r kD]
    have hns : (⟨zr, defs⟩ : Sch).ns = nm4.take n := by
      show defs.map (·.1) = _
      rw [hnm, hln, List.take_take]
      simp [-List.map_map, -List.map_take, -List.map_drop]
    have hp := (⟨zr, defs⟩ : Sch).pu
    simp [-List.map_map, -List.map_take, -List.map_drop, Sch.d] at hp
    refine gc_cut ((e1.trans ex).trans e3) h (by simp [-List.map_map, -List.map_take, -List.map_drop, hp]) fun s5 e5 l5 => ⟨⟨⟨zr, defs⟩, rfl, ⟨⟨n, hn1, hn4, hns⟩, by rw [hns]; exact hzr, fun i p hp => by rw [hns]; exact hbd i p hp⟩⟩, e5, l5⟩
end
end SB.K61
end

section
set_option maxHeartbeats 1000000
namespace SB.K61
open PySem SB.Ev
theorem Gen.mem {c : Sch} (g : Gen c) {p : Str × Body} (hp : p ∈ c.defs) : ∃ i, c.defs[i]? = some p ∧ p.2.ok c.ns = true ∧ p.2.good (c.ns.drop (i + 1)) ∧ p.2.fit ∧ wd p.2.d = true := by
  obtain ⟨i, hi⟩ := List.getElem?_of_mem hp
  exact ⟨i, hi, g.body i p hi⟩
theorem nm4_small : ∀ z ∈ nm4, z.length ≤ 1000 ∧ nmOk z = true := by decide +kernel
theorem nm4_sorted : ∀ n, n ≤ 4 → (nm4.take n).foldr insS [] = nm4.take n := by
  intro n hn
  have : n = 0 ∨ n = 1 ∨ n = 2 ∨ n = 3 ∨ n = 4 := by omega
  rcases this with rfl | rfl | rfl | rfl | rfl <;> decide +kernel
theorem Gen.len {c : Sch} (g : Gen c) : 1 ≤ c.defs.length ∧ c.defs.length ≤ 4 := by
  obtain ⟨n, h1, h2, h3⟩ := g.ns
  have : c.defs.length = c.ns.length := by simp [-List.map_map, -List.map_take, -List.map_drop, Sch.ns]
  rw [this, h3]
  simp [-List.map_map, -List.map_take, -List.map_drop, nm4]
  omega
theorem Gen.fit {c : Sch} (g : Gen c) : c.Fit where
  len := by have := g.len; omega
  nm := fun p hp => by
    obtain ⟨n, h1, h2, h3⟩ := g.ns
    have : p.1 ∈ c.ns := List.mem_map.mpr ⟨p, hp, rfl⟩
    rw [h3] at this
    exact (nm4_small _ (List.mem_of_mem_take this)).1
  body := fun p hp => by
    obtain ⟨i, _, _, _, h, _⟩ := g.mem hp
    exact h
theorem Gen.desc {c : Sch} (g : Gen c) : c.desc = true := by
  obtain ⟨n, h1, h2, h3⟩ := g.ns
  have hl := g.len
  have hs := nm4_sorted n h2
  rw [← h3] at hs
  have hr := g.root
  simp only [Sch.desc, Bool.and_eq_true, decide_eq_true_eq, List.all_eq_true, List.contains_iff_mem]
  refine ⟨⟨hl.1, by omega⟩, hs, hr, fun p hp => ⟨?_, ?_⟩⟩
  · have : p.1 ∈ c.ns := List.mem_map.mpr ⟨p, hp, rfl⟩
    rw [h3] at this
    exact (nm4_small _ (List.mem_of_mem_take this)).2
  · obtain ⟨i, _, h, _⟩ := g.mem hp
    exact h
theorem Gen.wd_ {c : Sch} (g : Gen c) : wd c.d = true := by
  have hl := g.len
  have h : wds (c.defs.map dfn) = true := wds_map fun p hp => by
    obtain ⟨i, _, _, _, _, h⟩ := g.mem hp
    simp [-List.map_map, -List.map_take, -List.map_drop, dfn, wd_tup, h]
  simp [-List.map_map, -List.map_take, -List.map_drop, Sch.d, wd_tup, h]
  omega
/-! depths of a drawn schema -/
theorem good_has {defs : List (Str × Body)} {lt : List Str} {b : Body} {j : Nat} (hb : b.good lt) (h : ∀ z ∈ lt, (look (lev defs j) z).isSome = true) : b.has (lev defs j) = true := by
  cases b with
  | lst p lo hi =>
    obtain ⟨h1, h2⟩ := hb
    cases p with
    | lf l => simp [-List.map_map, -List.map_take, -List.map_drop, Body.has, Part.known]
    | nam z =>
      rcases h2 with h2 | ⟨h2, _⟩
      · simp [-List.map_map, -List.map_take, -List.map_drop, Body.has, h2]
      · simp [-List.map_map, -List.map_take, -List.map_drop, Body.has, Part.known, h z h2]
  | recd fs ret =>
    obtain ⟨_, h2, _⟩ := hb
    simp only [Body.has, List.all_eq_true]
    intro f hf
    obtain ⟨id, part, mode, dv⟩ := f
    cases mode with
    | req =>
      have := h2 _ hf rfl
      cases part with
      | lf l => rfl
      | nam z => exact h z this
    | opt => rfl
    | dfl => rfl
  | uni cs ret o =>
    rcases hb with hb | ⟨c, hc, hz⟩
    · simp [-List.map_map, -List.map_take, -List.map_drop, Body.has, hb]
    · simp only [Body.has, Bool.or_eq_true, List.any_eq_true]
      refine .inr ⟨c, hc, ?_⟩
      obtain ⟨ci, cp⟩ := c
      cases cp with
      | lf l => rfl
      | nam z => exact h z hz
theorem known_up {defs : List (Str × Body)} {j L : Nat} (h : j ≤ L) {z : Str} (hz : (look (lev defs j) z).isSome = true) : (look (lev defs L) z).isSome = true := by
  obtain ⟨d, hd, _⟩ := known_dep h hz
  rw [hd]
  rfl
theorem Gen.known {c : Sch} (g : Gen c) : ∀ (m i : Nat) (p : Str × Body), c.defs[i]? = some p → c.defs.length - i ≤ m → (look (lev c.defs m) p.1).isSome = true
  | 0, i, p, hp, hm => by
    have := (List.getElem?_eq_some_iff.mp hp).1
    omega
  | m + 1, i, p, hp, hm => by
    have hi := (List.getElem?_eq_some_iff.mp hp).1
    obtain ⟨_, hg, _, _⟩ := g.body i p hp
    have hh : p.2.has (lev c.defs m) = true := good_has hg fun z hz => by
      obtain ⟨j, hj⟩ := List.getElem?_of_mem hz
      rw [List.getElem?_drop] at hj
      have e : ∃ q, c.defs[i + 1 + j]? = some q ∧ q.1 = z := by
        unfold Sch.ns at hj
        rw [List.getElem?_map] at hj
        exact Option.map_eq_some_iff.mp hj
      obtain ⟨q, hq, rfl⟩ := e
      exact Gen.known g m (i + 1 + j) q hq (by omega)
    rw [lev, look_app]
    cases e : look (lev c.defs m) p.1 with
    | some d => rfl
    | none =>
      have hf : p.1 ∈ found c.defs (lev c.defs m) := by
        unfold found
        refine List.mem_map.mpr ⟨p, List.mem_filter.mpr ⟨List.mem_of_getElem? hp, ?_⟩, rfl⟩
        simp [-List.map_map, -List.map_take, -List.map_drop, e, hh]
      simp only
      rw [look_tag hf]
      rfl
theorem Gen.full {c : Sch} (g : Gen c) : ¬ (lev c.defs c.defs.length).length < c.defs.length := by
  have hn : c.ns.Nodup := desc_nd g.desc
  have h := nodup_len c.ns ((lev c.defs c.defs.length).map (·.1)) hn fun z hz => by
    obtain ⟨p, hp, rfl⟩ := List.mem_map.mp hz
    obtain ⟨i, hi⟩ := List.getElem?_of_mem hp
    have := Gen.known g c.defs.length i p hi (by omega)
    obtain ⟨d, hd⟩ := Option.isSome_iff_exists.mp this
    exact List.mem_map.mpr ⟨_, look_mem hd, rfl⟩
  simp [-List.map_map, -List.map_take, -List.map_drop, Sch.ns] at h
  omega
/-! counts of a drawn schema -/
def CB (m ct : Tb) : Prop := ∀ q ∈ ct, ∃ d, look m q.1 = some d ∧ q.2 ≤ 6 * d
theorem pcn_le {defs : List (Str × Body)} {n j : Nat} (hj : j ≤ n) {ct : Tb} (hc : CB (lev defs n) ct) {p : Part} (hk : p.known (lev defs j) = true) : pcn ct p ≤ (match p with | .nam _ => 6 * (j : Int) | .lf _ => 1) := by
  cases p with
  | lf l => exact Int.le_refl _
  | nam z =>
    obtain ⟨d, h1, h2⟩ := known_dep hj hk
    show (look ct z).getD 0 ≤ 6 * (j : Int)
    cases e : look ct z with
    | none => simp [-List.map_map, -List.map_take, -List.map_drop]; omega
    | some v =>
      obtain ⟨d', h3, h4⟩ := hc _ (look_mem e)
      rw [h1] at h3
      cases h3
      simp [-List.map_map, -List.map_take, -List.map_drop]
      omega
theorem fold_le {ct : Tb} {B : Int} (hB : 0 ≤ B) : ∀ (fs : List Fld) (t : Int), (∀ f ∈ fs, f.mode ≠ .opt → pcn ct f.part ≤ (if f.rn = true then B else 1)) → fs.foldl (fcnt ct) t ≤ t + ((fs.length : Int) - ((fs.filter Fld.rn).length : Int)) + ((fs.filter Fld.rn).length : Int) * B
  | [], t, _ => by simp [-List.map_map, -List.map_take, -List.map_drop]
  | f :: fs, t, h => by
    have ih := fold_le hB fs (fcnt ct t f) fun g hg => h g (List.mem_cons_of_mem _ hg)
    have hf := h f (List.mem_cons_self ..)
    have hle : fcnt ct t f ≤ t + (if f.rn = true then B else 1) := by
      obtain ⟨id, part, mode, dv⟩ := f
      cases mode with
      | opt => simp [-List.map_map, -List.map_take, -List.map_drop, fcnt, Fld.rn]; omega
      | req =>
        have h2 := hf (by intro h; cases h)
        exact Int.add_le_add_left h2 t
      | dfl =>
        have h2 := hf (by intro h; cases h)
        exact Int.add_le_add_left h2 t
    rw [List.foldl_cons]
    by_cases hr : f.rn = true
    · rw [List.filter_cons_of_pos hr]
      rw [if_pos hr] at hle
      have e : (((fs.filter Fld.rn).length : Int) + 1) * B = ((fs.filter Fld.rn).length : Int) * B + B := by rw [Int.add_mul, Int.one_mul]
      simp only [List.length_cons, Int.natCast_add, Int.natCast_one] at ih ⊢
      rw [e]
      omega
    · rw [List.filter_cons_of_neg hr]
      rw [if_neg hr] at hle
      simp only [List.length_cons, Int.natCast_add, Int.natCast_one] at ih ⊢
      omega
theorem cnt_le {defs : List (Str × Body)} {ns lt : List Str} {b : Body} {j n : Nat} (hj : j ≤ n) (hok : b.ok ns = true) (hg : b.good lt) (hh : b.has (lev defs j) = true) {ct : Tb} (hc : CB (lev defs n) ct) : b.cnt (lev defs n) ct ≤ 6 * ((j : Int) + 1) := by
  cases b with
  | lst p lo hi =>
    by_cases h0 : lo = 0
    · simp [-List.map_map, -List.map_take, -List.map_drop, Body.cnt, h0]; omega
    · simp [-List.map_map, -List.map_take, -List.map_drop, Body.cnt, h0]
      have hk : p.known (lev defs j) = true := by simpa [-List.map_map, -List.map_take, -List.map_drop, Body.has, h0] using hh
      have hp := pcn_le hj hc hk
      obtain ⟨h2, h3⟩ := hg
      have hlo : 0 ≤ lo := by
        simp [-List.map_map, -List.map_take, -List.map_drop, Body.ok] at hok
        omega
      have : lo = 1 ∨ lo = 2 := by omega
      cases p with
      | lf l =>
        simp only at hp
        rcases this with rfl | rfl <;> omega
      | nam z =>
        simp only at hp
        rcases h3 with h3 | ⟨_, h3⟩
        · exact absurd h3 h0
        · have : lo = 1 := by omega
          subst this
          omega
  | recd fs ret =>
    obtain ⟨h1, h2, h3⟩ := hg
    have hf := fold_le (ct := ct) (B := 6 * (j : Int)) (by omega) fs 1 fun f hf hm => by
      simp only [Body.has, List.all_eq_true] at hh
      have hk := hh f hf
      have ho : f.ok ns = true := by
        simp only [Body.ok, Bool.and_eq_true, List.all_eq_true] at hok
        exact hok.1 f hf
      obtain ⟨id, part, mode, dv⟩ := f
      cases mode with
      | opt => exact absurd rfl hm
      | req =>
        have := pcn_le hj hc hk
        cases part with
        | lf l => simpa [-List.map_map, -List.map_take, -List.map_drop, Fld.rn] using this
        | nam z => simpa [-List.map_map, -List.map_take, -List.map_drop, Fld.rn] using this
      | dfl =>
        cases part with
        | lf l => simp [-List.map_map, -List.map_take, -List.map_drop, Fld.rn, pcn]
        | nam z => simp [-List.map_map, -List.map_take, -List.map_drop, Fld.ok] at ho
    show fs.foldl (fcnt ct) 1 ≤ _
    have : (fs.filter Fld.rn).length = 0 ∨ (fs.filter Fld.rn).length = 1 := by omega
    rcases this with e | e
    · rw [e] at hf
      simp [-List.map_map, -List.map_take, -List.map_drop] at hf
      omega
    · rw [e] at hf
      simp [-List.map_map, -List.map_take, -List.map_drop] at hf
      omega
  | uni cs ret o =>
    cases o with
    | true => simp [-List.map_map, -List.map_take, -List.map_drop, Body.cnt]; omega
    | false =>
      simp [-List.map_map, -List.map_take, -List.map_drop, Body.cnt]
      simp [-List.map_map, -List.map_take, -List.map_drop, Body.has] at hh
      obtain ⟨i, p, hcs, hk⟩ := hh
      obtain ⟨h1, h2, h3⟩ := part_ct (ct := lev defs n) hj (fun z d h _ => by rw [h]; rfl) hk
      obtain ⟨b, e1, e2, e3⟩ := best_spec hcs h2
      rw [e1]
      simp only
      obtain ⟨bi, bp⟩ := b
      cases bp with
      | lf l => simp [-List.map_map, -List.map_take, -List.map_drop, pcn]; omega
      | nam z =>
        show 1 + (look ct z).getD 0 ≤ _
        cases e : look ct z with
        | none => simp [-List.map_map, -List.map_take, -List.map_drop]; omega
        | some v =>
          obtain ⟨d', h4, h5⟩ := hc _ (look_mem e)
          have e6 : pd (lev defs n) (.nam z) = d' := by show (look _ z).getD 0 = d'; rw [h4]; rfl
          have e7 : pd (lev defs n) (.nam z) ≤ pd (lev defs n) p := e3
          simp [-List.map_map, -List.map_take, -List.map_drop]
          omega
theorem CB_fold {c : Sch} (g : Gen c) (L : Nat) : ∀ (l : List (Str × Body)) (ct : Tb), (∀ p ∈ l, p ∈ c.defs) → CB (lev c.defs c.defs.length) ct → CB (lev c.defs c.defs.length) (l.foldl (cstep (lev c.defs c.defs.length) ((L : Int) + 1)) ct)
  | [], ct, _, h => h
  | p :: l, ct, hm, h => by
    rw [List.foldl_cons]
    refine CB_fold g L l _ (fun q hq => hm q (List.mem_cons_of_mem _ hq)) ?_
    unfold cstep
    split
    · rename_i hp
      intro q hq
      rcases List.mem_append.mp hq with hq | hq
      · exact h q hq
      · rw [List.mem_singleton.mp hq]
        have hpd := hm p (List.mem_cons_self ..)
        obtain ⟨i, _, hok, hgood, _⟩ := g.mem hpd
        obtain ⟨j, j1, j2, j3⟩ := dep_has (desc_nd g.desc) (b := p.2) hpd hp
        refine ⟨_, hp, ?_⟩
        have := cnt_le (show j ≤ c.defs.length by omega) hok hgood j3 h
        show p.2.cnt _ ct ≤ _
        rw [j2]
        exact this
    · exact h
theorem CB_lev {c : Sch} (g : Gen c) : ∀ L, CB (lev c.defs c.defs.length) (clev c.defs (lev c.defs c.defs.length) L)
  | 0 => fun q h => by cases h
  | L + 1 => CB_fold g L c.defs _ (fun _ h => h) (CB_lev g L)
theorem Gen.valid {c : Sch} (g : Gen c) : c.valid = true := by
  have hl := g.len
  unfold Sch.valid
  rw [g.desc, Bool.true_and]
  unfold Sch.bnd
  simp only [Bool.and_eq_true, Bool.not_eq_true', decide_eq_false_iff_not, List.all_eq_true, decide_eq_true_eq]
  refine ⟨g.full, fun q hq => ?_⟩
  obtain ⟨v, hv⟩ := look_in hq
  rw [hv]
  obtain ⟨d, h1, h2⟩ := CB_lev g c.defs.length _ (look_mem hv)
  obtain ⟨j, j1, j2, _⟩ := lev_from c.defs c.defs.length h1
  show v ≤ 100
  have : v ≤ 6 * d := h2
  omega
end SB.K61
end

section
set_option maxHeartbeats 1000000
namespace SB.K61
open PySem SB.Ev
def metaS : Sch := ⟨"schema", [
  ("definition", .recd [⟨1, .lf (.txt 1 12), .req, .non⟩, ⟨2, .lf (.num 1 3), .req, .non⟩, ⟨3, .nam "members", .req, .non⟩, ⟨4, .nam "ids", .req, .non⟩, ⟨5, .lf (.num 0 99), .opt, .non⟩, ⟨6, .lf (.num 1 99), .opt, .non⟩, ⟨7, .lf (.num 0 1), .opt, .non⟩] []),
  ("definitions", .lst (.nam "definition") 1 8), ("ids", .lst (.lf (.num 1 99)) 0 99),
  ("leaf", .recd [⟨1, .lf (.num 1 3), .req, .non⟩, ⟨2, .lf (.num (-1000000000000000) 1000000000000000), .opt, .non⟩, ⟨3, .lf (.num (-1000000000000000) 1000000000000000), .opt, .non⟩, ⟨4, .nam "ids", .opt, .non⟩, ⟨5, .nam "ids", .opt, .non⟩, ⟨6, .lf (.num 0 1), .opt, .non⟩] []),
  ("member", .recd [⟨1, .lf (.num 0 99), .req, .non⟩, ⟨2, .nam "part", .req, .non⟩, ⟨3, .lf (.num 1 3), .opt, .non⟩, ⟨4, .lf (.num (-1000000000000000) 1000000000000000), .opt, .non⟩, ⟨5, .lf (.txt 0 40), .opt, .non⟩] []),
  ("members", .lst (.nam "member") 0 99), ("part", .uni [(1, .lf (.txt 1 12)), (2, .nam "leaf")] [] false),
  ("schema", .recd [⟨1, .lf (.txt 1 12), .req, .non⟩, ⟨2, .nam "definitions", .req, .non⟩] [])]⟩
theorem meta_d : c_META = metaS.d := by rfl
structure Good (c : Sch) : Prop where
  fit : c.Fit
  valid : c.valid = true
  ne : 1 ≤ c.defs.length
  wd_ : ∀ p ∈ c.defs, wd p.2.d = true
theorem Good.nd {c : Sch} (g : Good c) : c.ns.Nodup := by
  have h := g.valid
  unfold Sch.valid at h
  rw [Bool.and_eq_true] at h
  exact desc_nd h.1
theorem Gen.good {c : Sch} (g : Gen c) : Good c := ⟨g.fit, g.valid, g.len.1, fun p hp => by obtain ⟨i, _, _, _, _, h⟩ := g.mem hp; exact h⟩
theorem meta_valid : metaS.valid = true := by decide +kernel
theorem meta_good : Good metaS where
  fit := {
    len := by decide
    nm := by decide +kernel
    body := by
      intro p hp
      simp only [metaS, List.mem_cons, List.not_mem_nil, or_false] at hp
      rcases hp with rfl | rfl | rfl | rfl | rfl | rfl | rfl | rfl <;> simp [-List.map_map, -List.map_take, -List.map_drop, Body.fit, Dv.fit]
  }
  valid := meta_valid
  ne := by decide
  wd_ := by decide +kernel
/-! ### the law -/
theorem cell_ok (k : Nat) (ns : List Int) (j : Nat) (s : Sto) : ∃ v, callF T (k + 1) .f_law_cell [.lis (ns.map D.int), .int (j : Int)] s = .ok (.int v) s := by
  by_cases h : j < ns.length
  · refine ⟨ns[j], ?_⟩
    apply Wp.eq
    refine w_law_cell ?_
    have h' : (j : Int) < (ns.length : Int) := by omega
    have e : atI (ns.map D.int) (j : Int) = some (.int ns[j]) := atI_nat (by rw [List.getElem?_map, List.getElem?_eq_getElem h]; rfl)
    simp [-List.map_map, -List.map_take, -List.map_drop, h, h', e]
  · refine ⟨0, ?_⟩
    apply Wp.eq
    refine w_law_cell ?_
    have h' : ¬ (j : Int) < (ns.length : Int) := by omega
    simp [-List.map_map, -List.map_take, -List.map_drop, h, h']
theorem put_ns (c : Sch) (z : Str) (b : Body) : (c.put z b).ns = c.ns := by
  unfold Sch.ns Sch.put
  simp only
  rw [List.map_map]
  congr 1
  funext p
  show (if p.1 = z then (p.1, b) else p).1 = p.1
  split <;> rfl
theorem put_fit {c : Sch} (h : c.Fit) {z : Str} {b : Body} (hb : b.fit) : (c.put z b).Fit where
  len := by simp [-List.map_map, -List.map_take, -List.map_drop, Sch.put]; exact h.len
  nm := fun p hp => by
    obtain ⟨q, hq, rfl⟩ := List.mem_map.mp hp
    have := h.nm q hq
    split <;> exact this
  body := fun p hp => by
    obtain ⟨q, hq, rfl⟩ := List.mem_map.mp hp
    have := h.body q hq
    split
    · exact hb
    · exact this
theorem put_wd {c : Sch} (g : Good c) {z : Str} {b : Body} (hb : wd b.d = true) : wd (c.put z b).d = true := by
  have h1 : wds ((c.put z b).defs.map dfn) = true := wds_map fun p hp => by
    obtain ⟨q, hq, rfl⟩ := List.mem_map.mp hp
    have := g.wd_ q hq
    split
    · simp [-List.map_map, -List.map_take, -List.map_drop, dfn, wd_tup, hb]
    · simp [-List.map_map, -List.map_take, -List.map_drop, dfn, wd_tup, this]
  have h2 : (c.put z b).defs.length ≤ 100000 := by
    have := g.fit.len
    simp [-List.map_map, -List.map_take, -List.map_drop, Sch.put]
    omega
  simp [-List.map_map, -List.map_take, -List.map_drop, Sch.d, wd_tup, h1, h2]
theorem put_at {c : Sch} (hn : c.ns.Nodup) {z : Str} {b : Body} {p : Str × Body} (hp : p ∈ c.defs) : bodyAt p.1 (c.put z b).defs = if p.1 = z then b.d else p.2.d := by
  have hn2 : ((c.put z b).defs.map (·.1)).Nodup := by
    have := put_ns c z b
    unfold Sch.ns at this
    rw [this]
    exact hn
  by_cases h : p.1 = z
  · rw [if_pos h]
    exact bodyAt_in hn2 (List.mem_map.mpr ⟨p, hp, by rw [if_pos h]⟩)
  · rw [if_neg h]
    exact bodyAt_in hn2 (List.mem_map.mpr ⟨p, hp, by rw [if_neg h]⟩)
theorem def_at {c : Sch} {v : Int} (h0 : 0 ≤ v) (h1 : v < c.defs.length) (s : Sto) : ∃ p, p ∈ c.defs ∧ idxOp (.tup (c.defs.map dfn)) (.int v) s = .ok (dfn p) s := by
  obtain ⟨j, rfl⟩ : ∃ j : Nat, v = (j : Int) := ⟨v.toNat, by omega⟩
  have hj : j < c.defs.length := by omega
  refine ⟨c.defs[j], List.getElem_mem hj, ?_⟩
  have e : atI (c.defs.map dfn) (j : Int) = some (dfn c.defs[j]) := atI_nat (by rw [List.getElem?_map, List.getElem?_eq_getElem hj]; rfl)
  simp [-List.map_map, -List.map_take, -List.map_drop, e]
def lawI (c : Sch) (s0 : Sto) (mk : Option D → Option D → Env) (l : List (Str × Body)) (env : Env) (s : Sto) : Prop := (∀ p ∈ l, p ∈ c.defs) ∧ s = s0 ∧ ∃ x y, env = mk x y
theorem law_rest (k : Nat) (c : Sch) (g : Good c) (p q : Nat) (s : Sto) (h : Dr s p q) (x0 : Option D) :
    Wp (evSs (callF T (k + 20)) (.cons (.set 3 (.blt .len (.cons (.idx (.var 1) (.int 1)) .nil))) (.cons (.set 4 (.idx (.idx (.idx (.var 1) (.int 1)) (.call .f_law_next (.cons (.var 2) (.cons (.var 3) .nil)))) (.int 0))) (.cons (.set 5 (.idx (.idx (.idx (.var 1) (.int 1)) (.call .f_law_next (.cons (.var 2) (.cons (.var 3) .nil)))) (.int 1))) (.cons (.set 6 (.call .f_with_body (.cons (.var 1) (.cons (.var 4) (.cons (.var 5) .nil))))) (.cons (.iff (.not (.call .f_law_same (.cons (.var 6) (.cons (.call .f_law_with_body (.cons (.var 1) (.cons (.var 4) (.cons (.var 5) .nil)))) .nil)))) (.cons (.ret (.bl false)) .nil) .nil) (.cons (.for_ [7] true (.ex (.idx (.var 1) (.int 1))) l_law_1) (.cons (.ret (.cmp .is (.call .f_is_valid (.cons (.var 1) .nil)) (.bl true))) .nil))))))) [x0, some c.d, some (.ref p), none, none, none, none, none, none] s)
      fun fl s2 => Wp (gcFl .raw [] fl s2) fun d s => d = .bl true := by
  have ei : ∀ s' : Sto, idxOp c.d (.int 1) s' = .ok (.tup (c.defs.map dfn)) s' := fun s' => by simp [-List.map_map, -List.map_take, -List.map_drop, Sch.d]
  have ed0 : ∀ (p : Str × Body) (s' : Sto), idxOp (dfn p) (.int 0) s' = .ok (.str p.1) s' := fun p s' => by simp [-List.map_map, -List.map_take, -List.map_drop, dfn]
  have ed1 : ∀ (p : Str × Body) (s' : Sto), idxOp (dfn p) (.int 1) s' = .ok p.2.d s' := fun p s' => by simp [-List.map_map, -List.map_take, -List.map_drop, dfn]
  have hne := g.ne
  simp [-List.map_map, -List.map_take, -List.map_drop, ei]
  refine (next_ok _ h c.defs.length (by omega)).imp ?_
  rintro d s1 ⟨⟨v, rfl, v0, v1⟩, e1, n1⟩
  obtain ⟨pa, hpa, ia⟩ := def_at v0 v1 s1
  rw [ia]
  simp [-List.map_map, -List.map_take, -List.map_drop, ed0, ei]
  refine (next_ok _ e1.dr c.defs.length (by omega)).imp ?_
  rintro d s2 ⟨⟨w, rfl, w0, w1⟩, e2, n2⟩
  obtain ⟨pb, hpb, ib⟩ := def_at w0 w1 s2
  rw [ib]
  have hbf := g.fit.body pb hpb
  have hbw := g.wd_ pb hpb
  have pf := put_fit (z := pa.1) g.fit hbf
  have pw := put_wd (z := pa.1) g hbw
  have w1 := with_ok (k + 19) c g.fit pa.1 pb.2 s2
  have w2 := lwith_ok (k + 19) c g.fit pa.1 pb.2 s2
  have w3 := same_ok (k + 11) 8 (c.put pa.1 pb.2).d s2 (Sch.pu _) (Sch.de _) pw
  have nd := g.nd
  simp [-List.map_map, -List.map_take, -List.map_drop, ed1, w1, w2, w3, ei]
  refine for_inv dfn (lawI c s2 (fun x y => [x0, some c.d, some (.ref p), some (.int c.defs.length), some (.str pa.1), some pb.2.d, some (c.put pa.1 pb.2).d, x, y])) (fun a l env s' hI => ?_) (fun env s' hI => ?_) c.defs _ _ ⟨fun _ h => h, rfl, none, none, rfl⟩
  · obtain ⟨hm, rfl, x, y, rfl⟩ := hI
    have ha := hm a (List.mem_cons_self ..)
    refine ⟨rfl, _, bT1, ?_⟩
    have b1 := bodyof_ok (k + 19) c a.1 s'
    rw [bodyAt_in nd ha] at b1
    have b2 := bodyof_ok (k + 19) (c.put pa.1 pb.2) a.1 s'
    rw [put_at nd ha] at b2
    have sm : ∀ b : Body, wd b.d = true → callF T (k + 20) .f_law_same [b.d, b.d] s' = .ok (.bl true) s' := fun b hb => same_ok (k + 14) 5 b.d s' b.pu b.de hb
    have vl := valid_ok (k + 12) (c.put pa.1 pb.2) pf s'
    have nx : ∀ x y, lawI c s' (fun x y => [x0, some c.d, some (.ref p), some (.int c.defs.length), some (.str pa.1), some pb.2.d, some (c.put pa.1 pb.2).d, x, y]) l [x0, some c.d, some (.ref p), some (.int c.defs.length), some (.str pa.1), some pb.2.d, some (c.put pa.1 pb.2).d, x, y] s' :=
      fun x y => ⟨fun p hp => hm p (List.mem_cons_of_mem _ hp), rfl, x, y, rfl⟩
    simp [-List.map_map, -List.map_take, -List.map_drop, ed0, ed1, b1, sm a.2 (g.wd_ a ha)]
    by_cases hz : a.1 = pa.1
    · rw [if_pos hz] at b2
      rw [hz] at b2
      simp [-List.map_map, -List.map_take, -List.map_drop, hz, vl, b2, sm pb.2 hbw]
      first
      | exact nx _ _
      | (cases (c.put pa.1 pb.2).valid <;> (try simp [-List.map_map, -List.map_take, -List.map_drop, ed0, ed1, hz, b2, sm pb.2 hbw]) <;> exact nx _ _)
    · rw [if_neg hz] at b2
      simp [-List.map_map, -List.map_take, -List.map_drop, hz, vl, b2, sm a.2 (g.wd_ a ha)]
      first
      | exact nx _ _
      | (cases (c.put pa.1 pb.2).valid <;> (try simp [-List.map_map, -List.map_take, -List.map_drop, ed0, ed1, hz, b2, sm a.2 (g.wd_ a ha)]) <;> exact nx _ _)
  · obtain ⟨hm, rfl, x, y, rfl⟩ := hI
    refine ⟨rfl, ?_⟩
    have vl := valid_ok (k + 12) c g.fit s'
    simp [-List.map_map, -List.map_take, -List.map_drop, vl, g.valid]
theorem law_main (k : Nat) (ns : List Int) : ∃ s, callF T (k + 21) .f_law [.lis (ns.map D.int)] [] = .ok (.bl true) s := by
  have h : Wp (callF T (k + 21) .f_law [.lis (ns.map D.int)] []) fun d s => d = .bl true := by
    refine w_law ?_
    obtain ⟨v, hv⟩ := cell_ok (k + 19) ns 0 []
    have hv' : callF T (k + 20) .f_law_cell [.lis (ns.map D.int), .int 0] [] = .ok (.int v) [] := hv
    simp [-List.map_map, -List.map_take, -List.map_drop, hv']
    refine (draws_ok (k + 19) v []).imp ?_
    rintro d s1 ⟨rfl, n1, _, dr⟩
    try simp [-List.map_map, -List.map_take, -List.map_drop]
    refine (sch_gen (k + 14) dr).imp ?_
    rintro d s2 ⟨⟨c, rfl, gc⟩, ex, n2⟩
    obtain ⟨v2, hv2⟩ := cell_ok (k + 19) ns 1 s2
    have hv2' : callF T (k + 20) .f_law_cell [.lis (ns.map D.int), .int 1] s2 = .ok (.int v2) s2 := hv2
    simp [-List.map_map, -List.map_take, -List.map_drop, hv2']
    refine (draws_ok (k + 19) v2 s2).imp ?_
    rintro d s3 ⟨rfl, n3, _, dr3⟩
    try simp [-List.map_map, -List.map_take, -List.map_drop]
    refine (next_ok (k + 19) dr3 4 (by decide)).imp ?_
    rintro d s4 ⟨⟨u, rfl, u0, u1⟩, e4, n4⟩
    by_cases hu : u = 1
    · have h1 := law_rest k metaS meta_good _ _ s4 e4.dr (some (.lis (ns.map D.int)))
      rw [← meta_d] at h1
      simp [-List.map_map, -List.map_take, -List.map_drop] at h1
      simp [-List.map_map, -List.map_take, -List.map_drop, hu]
      exact h1
    · have h1 := law_rest k c gc.good _ _ s4 e4.dr (some (.lis (ns.map D.int)))
      simp [-List.map_map, -List.map_take, -List.map_drop] at h1
      simp [-List.map_map, -List.map_take, -List.map_drop, hu]
      exact h1
  obtain ⟨d, s, e, rfl⟩ := h.ex
  exact ⟨s, e⟩
end SB.K61
end

section
set_option maxHeartbeats 0
namespace SB.K61
open PySem PySem.Spec PyProof.Rows L2
def prog : Program := PySem.Challenge.pw_schemabridge_k61_definitions_replaced
def stm (i : Nat) : Stmt := prog.main.body.getD i (.Pass ⟨0, 0, 0, 0⟩)
def sr : Src F := ⟨nm, cs, T, [.f_are_ascending_ids, .f_have_common, .f_are_valid_ids, .f_is_valid_leaf, .f_is_allowed_code, .f_is_text, .f_is_leaf_value, .f_is_name, .f_body_of, .f_with_body, .f_live_ids, .f_is_valid_name, .f_is_valid_part, .f_is_valid_field, .f_is_valid_body, .f_is_described, .f_is_known, .f_part_depth, .f_has_value, .f_least_depths, .f_simple_case, .f_part_count, .f_simple_count, .f_simple_counts, .f_are_bounded, .f_is_valid, .f_law_cell, .f_law_draws, .f_law_next, .f_law_big, .f_law_char, .f_law_ids, .f_law_split, .f_law_leaf, .f_law_leaf_value, .f_law_part, .f_law_list_body, .f_law_record_body, .f_law_union_body, .f_law_schema, .f_law_with_body, .f_law_same, .f_law], fun f => defArgs (stm (Ix f)), fun f => defBody (stm (Ix f)), fun f => defScope (stm (Ix f)), Ns, Ps⟩
theorem sr_all : ∀ f, f ∈ sr.fs := by intro f; cases f <;> decide
theorem sr_sc : ∀ f, FnScope (sr.N f) (sr.ps f) (sr.scope f) := by
  intro f
  cases f <;> exact ⟨by kernel_rfl, by kernel_rfl, by kernel_rfl, by decide +kernel, by kernel_rfl, by decide +kernel, by decide +kernel⟩
theorem sr_mt : ∀ f, mtSs sr.nm sr.cs (sr.N f) (sr.scope f) (sr.T f).body (sr.body f) = true := by
  intro f
  cases f <;> kernel_rfl
theorem sr_bind : ∀ (f : F) (kV doc pm : Value) (an : Option Addr) (cdv ct : Value) (us : List Value), us.length = (sr.ps f).length → bindArgs (PySem.W.fnOf (sr.nm f) (sr.nm f) (sr.params f) (sr.body f) (sr.scope f) .none kV doc pm an cdv ct) ⟨us, []⟩ = pure ((sr.ps f).zip us)
  | .f_are_ascending_ids => fun _ _ _ _ _ _ us hl => match us, hl with | [_], _ => rfl
  | .f_have_common => fun _ _ _ _ _ _ us hl => match us, hl with | [_, _], _ => rfl
  | .f_are_valid_ids => fun _ _ _ _ _ _ us hl => match us, hl with | [_, _, _], _ => rfl
  | .f_is_valid_leaf => fun _ _ _ _ _ _ us hl => match us, hl with | [_], _ => rfl
  | .f_is_allowed_code => fun _ _ _ _ _ _ us hl => match us, hl with | [_], _ => rfl
  | .f_is_text => fun _ _ _ _ _ _ us hl => match us, hl with | [_], _ => rfl
  | .f_is_leaf_value => fun _ _ _ _ _ _ us hl => match us, hl with | [_, _], _ => rfl
  | .f_is_name => fun _ _ _ _ _ _ us hl => match us, hl with | [_], _ => rfl
  | .f_body_of => fun _ _ _ _ _ _ us hl => match us, hl with | [_, _], _ => rfl
  | .f_with_body => fun _ _ _ _ _ _ us hl => match us, hl with | [_, _, _], _ => rfl
  | .f_live_ids => fun _ _ _ _ _ _ us hl => match us, hl with | [_], _ => rfl
  | .f_is_valid_name => fun _ _ _ _ _ _ us hl => match us, hl with | [_], _ => rfl
  | .f_is_valid_part => fun _ _ _ _ _ _ us hl => match us, hl with | [_, _], _ => rfl
  | .f_is_valid_field => fun _ _ _ _ _ _ us hl => match us, hl with | [_, _], _ => rfl
  | .f_is_valid_body => fun _ _ _ _ _ _ us hl => match us, hl with | [_, _], _ => rfl
  | .f_is_described => fun _ _ _ _ _ _ us hl => match us, hl with | [_], _ => rfl
  | .f_is_known => fun _ _ _ _ _ _ us hl => match us, hl with | [_, _], _ => rfl
  | .f_part_depth => fun _ _ _ _ _ _ us hl => match us, hl with | [_, _], _ => rfl
  | .f_has_value => fun _ _ _ _ _ _ us hl => match us, hl with | [_, _], _ => rfl
  | .f_least_depths => fun _ _ _ _ _ _ us hl => match us, hl with | [_], _ => rfl
  | .f_simple_case => fun _ _ _ _ _ _ us hl => match us, hl with | [_, _], _ => rfl
  | .f_part_count => fun _ _ _ _ _ _ us hl => match us, hl with | [_, _], _ => rfl
  | .f_simple_count => fun _ _ _ _ _ _ us hl => match us, hl with | [_, _, _], _ => rfl
  | .f_simple_counts => fun _ _ _ _ _ _ us hl => match us, hl with | [_, _], _ => rfl
  | .f_are_bounded => fun _ _ _ _ _ _ us hl => match us, hl with | [_], _ => rfl
  | .f_is_valid => fun _ _ _ _ _ _ us hl => match us, hl with | [_], _ => rfl
  | .f_law_cell => fun _ _ _ _ _ _ us hl => match us, hl with | [_, _], _ => rfl
  | .f_law_draws => fun _ _ _ _ _ _ us hl => match us, hl with | [_], _ => rfl
  | .f_law_next => fun _ _ _ _ _ _ us hl => match us, hl with | [_, _], _ => rfl
  | .f_law_big => fun _ _ _ _ _ _ us hl => match us, hl with | [_], _ => rfl
  | .f_law_char => fun _ _ _ _ _ _ us hl => match us, hl with | [_], _ => rfl
  | .f_law_ids => fun _ _ _ _ _ _ us hl => match us, hl with | [_, _], _ => rfl
  | .f_law_split => fun _ _ _ _ _ _ us hl => match us, hl with | [_, _], _ => rfl
  | .f_law_leaf => fun _ _ _ _ _ _ us hl => match us, hl with | [_], _ => rfl
  | .f_law_leaf_value => fun _ _ _ _ _ _ us hl => match us, hl with | [_, _], _ => rfl
  | .f_law_part => fun _ _ _ _ _ _ us hl => match us, hl with | [_, _], _ => rfl
  | .f_law_list_body => fun _ _ _ _ _ _ us hl => match us, hl with | [_, _, _], _ => rfl
  | .f_law_record_body => fun _ _ _ _ _ _ us hl => match us, hl with | [_, _, _], _ => rfl
  | .f_law_union_body => fun _ _ _ _ _ _ us hl => match us, hl with | [_, _, _], _ => rfl
  | .f_law_schema => fun _ _ _ _ _ _ us hl => match us, hl with | [_], _ => rfl
  | .f_law_with_body => fun _ _ _ _ _ _ us hl => match us, hl with | [_, _, _], _ => rfl
  | .f_law_same => fun _ _ _ _ _ _ us hl => match us, hl with | [_, _], _ => rfl
  | .f_law => fun _ _ _ _ _ _ us hl => match us, hl with | [_], _ => rfl
theorem sr_ok : sr.Ok := ⟨sr_all, sr_sc, fun f => by cases f <;> rfl, fun f => by cases f <;> rfl, sr_mt, sr_bind⟩
end SB.K61
end

section
set_option maxHeartbeats 0
namespace SB.K61
open PySem PySem.Spec PyProof.Rows L2
abbrev Rw : PySem.W.OpenRow := PySem.W.OpenLaw.row PySem.Challenge.rw_schemabridge_k61_definitions_replaced
abbrev hk : PySem.W.Hook := hookS 12 sr.fa sr.fn sr.cs
def ob (s : PySem.W.SharedT) : AlS := obsSG 12 sr.fa sr.fn sr.cs (HandSHeadRun.getT s)
theorem ob_is (s : PySem.W.SharedT) : ob s = hk.obs s.abs := obsSG_eq (HandSHeadRun.getT_eq s)
def loose : List PySem.Str := (sr.fs.map nm).filter (fun n => n != ("law" : Str)) ++ sr.cs.map (·.1)
theorem top_run (w : World) : HandSHeadRun.RunEq Rw (PySem.W.view Rw.prog [54]) hk ob 6000 loose w := by
  intro os
  kernel_rfl
end SB.K61
end

section
set_option maxHeartbeats 0
namespace SB.K61
theorem law_true (ns : List Int) (h : ns.length ≤ 63) : ∃ s, callF T 221 .f_law [.lis (ns.map D.int)] [] = .ok (.bl true) s   := law_main 200 ns
end SB.K61
open PySem PySem.W PySem.Calls PyProof.Rows
theorem PySem.Challenge.cw_schemabridge_k61_definitions_replaced_holds : PySem.Challenge.rw_schemabridge_k61_definitions_replaced.Holds := by
  w_on; o_law
  refine HandSHeadRun.head_any (r := SB.K61.Rw) (q := view SB.K61.Rw.prog [54]) (H := SB.K61.hk) (ob := SB.K61.ob) (M := 6000) (loose := SB.K61.loose) (d := HandSHeadRun.topDef SB.K61.Rw.prog 54) (kwd := []) SB.K61.ob_is
    (by kernel_rfl) (fun s => by kernel_rfl) SB.K61.top_run (by kernel_rfl) (by kernel_rfl) (by kernel_rfl) (by rfl) (by first | assumption | decide +kernel) (by decide +kernel) ⟨rfl, rfl, rfl, rfl, rfl, by decide +kernel⟩ ?hw ?hc
  case hw => w_witness2
  case hc =>
    refine SB.walk_w (l := PySem.Challenge.rw_schemabridge_k61_definitions_replaced) (n := 63) (k := 221) (x := "_law_script") rfl (by decide) (by kernel_rfl) ⟨rfl, by decide, by decide⟩ ?F
    intro w mg fa h Y G hm
    obtain ⟨K, KX, c⟩ := Y
    have hm2 : mg (SB.K61.sr.nm .f_law) = some (.ref fa) := by
      have e : (HandSHeadRun.topDef SB.K61.Rw.prog 54).name = SB.K61.sr.nm .f_law := by kernel_rfl
      rw [← e]
      exact hm
    obtain ⟨fd, hb, hF⟩ := SB.K61.sr_ok.law (P := SB.K61.prog) (w := w) KX G c .f_law (x := "_law_script") rfl 220 hm2
    exact ⟨K, fd, _, KX, hb, fun H a ns hl hO hS => SB.law_sp SB.K61.law_true H a ns hl hO hS, hF⟩
end
